import Derived.Test.YtlmpdahiekflcaaDoorQParsicPDx1
import Derived.Test.YtlmpdahiekflcaaDoorQParsicMw
/- Parsing a dyadic number: the reference's reading and the library's find the same: plain lemmas on the printed functions. -/
namespace Go.Proofs.YtlmpdahiekflcaaDoor.PD
open Go.RowKit Go.Proofs.YtlmpdahiekflcaaDoorW.PrintWords Go.Proofs.YtlmpdahiekflcaaDoorW.PrintLast Go.Proofs.YtlmpdahiekflcaaDoorW.PrintMore
/-- The bytes of a string. -/
def bl (x : ByteArray) : List UInt8 := x.data.toList
theorem bl_len (x : ByteArray) : (bl x).length = x.size := by unfold bl; rw [Array.length_toList]; rfl
theorem bl_inj {x y : ByteArray} (h : bl x = bl y) : x = y := ByteArray.ext (Array.ext' h)
theorem bl_toList (x : ByteArray) : x.toList = bl x := ByteArray.toList_eq x
theorem toList_inj {x y : ByteArray} (h : x.toList = y.toList) : x = y := bl_inj (by rw [← bl_toList, ← bl_toList, h])
theorem bt_bl (x : ByteArray) (i : Nat) (h : i < x.size) : bt x (i : Int) = (((bl x).getD i 0).toNat : Int) := by
  have e : (i : Int).toNat = i := Int.toNat_natCast i
  have h2 : (bl x).getD i 0 = x[i]'h := by
    unfold bl
    rw [List.getD_eq_getElem?_getD, List.getElem?_eq_getElem (by rw [Array.length_toList]; exact h)]; rfl
  unfold bt
  rw [dif_pos (by rw [e]; exact h), h2]
  simp only [e]
theorem bl_drop (x : ByteArray) (a : Nat) : bl (x.extract a x.size) = (bl x).drop a := Lib.extract_to_end x a
theorem bl_take (x : ByteArray) (b : Nat) : bl (x.extract 0 b) = (bl x).take b := by
  unfold bl
  simp [ByteArray.data_extract]
/-! digits -/
def dg (c : UInt8) : Prop := 48 ≤ c.toNat ∧ c.toNat ≤ 57
def dval (a : Nat) : List UInt8 → Nat
  | [] => a
  | c :: l => dval (10 * a + (c.toNat - 48)) l
theorem dval_ge : ∀ (l : List UInt8) (a : Nat), a ≤ dval a l
  | [], _ => Nat.le_refl _
  | c :: l, a => by
    have := dval_ge l (10 * a + (c.toNat - 48))
    show a ≤ dval (10 * a + (c.toNat - 48)) l
    omega
theorem dval_append : ∀ (l m : List UInt8) (a : Nat), dval a (l ++ m) = dval (dval a l) m
  | [], _, _ => rfl
  | c :: l, m, a => dval_append l m (10 * a + (c.toNat - 48))
theorem digit_nat {d : Nat} (h : d < 10) : (UInt8.ofNat (48 + d)).toNat = 48 + d := by
  rw [UInt8.toNat_ofNat']; omega
theorem dec_dg : ∀ u : Nat, ∀ c ∈ Lib.decDigits u, dg c := by
  intro u
  induction u using Nat.strongRecOn with
  | ind u ih =>
    intro c hc
    rw [Lib.decDigits] at hc
    split at hc
    · next h =>
      rw [List.mem_singleton.1 hc]; unfold dg; rw [digit_nat h]; omega
    · next h =>
      rcases List.mem_append.1 hc with hc | hc
      · exact ih (u / 10) (by omega) c hc
      · rw [List.mem_singleton.1 hc]; unfold dg; rw [digit_nat (by omega)]; omega
theorem dec_val : ∀ u : Nat, dval 0 (Lib.decDigits u) = u := by
  intro u
  induction u using Nat.strongRecOn with
  | ind u ih =>
    rw [Lib.decDigits]
    split
    · next h =>
      show 10 * 0 + ((UInt8.ofNat (48 + u)).toNat - 48) = u
      rw [digit_nat h]; omega
    · next h =>
      rw [dval_append, ih (u / 10) (by omega)]
      show 10 * (u / 10) + ((UInt8.ofNat (48 + u % 10)).toNat - 48) = u
      rw [digit_nat (by omega)]; omega
theorem dec_short : ∀ (d u : Nat), u < 10 ^ (d + 1) → (Lib.decDigits u).length ≤ d + 1 := by
  intro d
  induction d with
  | zero => intro u h; rw [Lib.decDigits, dif_pos (by simpa using h)]; simp
  | succ d ih =>
    intro u h
    rw [Lib.decDigits]
    split
    · simp
    · have := ih (u / 10) (by rw [Nat.pow_succ] at h; omega)
      rw [List.length_append, List.length_singleton]; omega
theorem dec_ne (u : Nat) : Lib.decDigits u ≠ [] := by
  rw [Lib.decDigits]
  split <;> simp
/-- The text of an integer. -/
theorem itoa_cases (n : Int) : (n < 0 ∧ Lib.itoa n = 45 :: Lib.decDigits n.natAbs) ∨ (0 ≤ n ∧ Lib.itoa n = Lib.decDigits n.natAbs) := by
  unfold Lib.itoa
  by_cases h : n < 0
  · rw [if_pos h]; exact .inl ⟨h, rfl⟩
  · rw [if_neg h, show n.toNat = n.natAbs by omega]; exact .inr ⟨by omega, rfl⟩
theorem itoa_no (n : Int) : ∀ c ∈ Lib.itoa n, c.toNat ≠ 47 := by
  intro c hc
  rcases itoa_cases n with ⟨_, e⟩ | ⟨_, e⟩
  · rw [e] at hc
    rcases List.mem_cons.1 hc with rfl | hc
    · decide
    · have := dec_dg _ c hc; unfold dg at this; omega
  · rw [e] at hc
    have := dec_dg _ c hc; unfold dg at this; omega
theorem itoa_short {n : Int} (h : Small n) : (Lib.itoa n).length ≤ 14 := by
  have h1 := h.1
  have h2 := h.2
  have := dec_short 12 n.natAbs (by have : (10 : Nat) ^ 13 = 10000000000000 := by decide
                                    omega)
  rcases itoa_cases n with ⟨_, e⟩ | ⟨_, e⟩
  · rw [e, List.length_cons]; omega
  · rw [e]; omega
/-! the reference's loops -/
theorem drop_cons {x : ByteArray} {i : Nat} (h : i < x.size) : (bl x).drop i = (bl x).getD i 0 :: (bl x).drop (i + 1) := by
  have hl : i < (bl x).length := by rw [bl_len]; exact h
  rw [List.drop_eq_getElem_cons hl, List.getD_eq_getElem?_getD, List.getElem?_eq_getElem hl]; rfl
theorem drop_end (x : ByteArray) : (bl x).drop x.size = [] := List.drop_eq_nil_of_le (by rw [bl_len]; exact Nat.le_refl _)
theorem dyRead_l0 {x : ByteArray} (hx : x.size ≤ 1000000) (sg : Int) : ∀ (d i K a : Nat), i + d = x.size → (∀ c ∈ (bl x).drop i, dg c) → dval a ((bl x).drop i) ≤ 1099511627776 → d < K → spec_dyRead.l0 K x sg (a : Int) (i : Int) = some (wrap64 (sg * (dval a ((bl x).drop i) : Int))) := by
  intro d
  induction d with
  | zero =>
    intro i K a hi _ _ hK
    obtain ⟨K, rfl⟩ : ∃ j, K = j + 1 := ⟨K - 1, by omega⟩
    obtain rfl : i = x.size := by omega
    simp only [spec_dyRead.l0]
    rw [if_neg (by omega), drop_end]; rfl
  | succ d ih =>
    intro i K a hi hd hv hK
    obtain ⟨K, rfl⟩ : ∃ j, K = j + 1 := ⟨K - 1, by omega⟩
    have hil : i < x.size := by omega
    rw [drop_cons hil] at hd hv ⊢
    have hc := hd _ (List.mem_cons_self ..)
    have hge : 10 * a + (((bl x).getD i 0).toNat - 48) ≤ dval a ((bl x).getD i 0 :: (bl x).drop (i + 1)) := dval_ge _ _
    have hv' : dval (10 * a + (((bl x).getD i 0).toNat - 48)) ((bl x).drop (i + 1)) ≤ 1099511627776 := hv
    have ih' := ih (i + 1) K (10 * a + (((bl x).getD i 0).toNat - 48)) (by omega) (fun c h => hd c (List.mem_cons_of_mem _ h)) hv' (by omega)
    unfold dg at hc
    simp only [spec_dyRead.l0]
    rw [if_pos (by omega), if_pos (by omega), bt_bl x i hil, if_neg (by omega), if_neg (by omega), if_neg (by omega), w64 (x := 10 * (a : Int)) (by omega) (by omega), Int.emod_eq_of_lt (by omega) (by omega), w64 (x := 10 * (a : Int) + _) (by omega) (by omega), w64 (x := (i : Int) + 1) (by omega) (by omega)]
    rw [show 10 * (a : Int) + ((((bl x).getD i 0).toNat : Int) - 48) = ((10 * a + (((bl x).getD i 0).toNat - 48) : Nat) : Int) by omega, show (i : Int) + 1 = ((i + 1 : Nat) : Int) by omega, ih']
    rfl
theorem dyRead_tot {x : ByteArray} (hx : x.size ≤ 1000000) (sg : Int) : ∀ (d i : Nat) (a : Int), i + d = x.size → ∃ r, ∀ K, d < K → spec_dyRead.l0 K x sg a (i : Int) = some r := by
  intro d
  induction d with
  | zero =>
    intro i a hi
    refine ⟨wrap64 (sg * a), fun K hK => ?_⟩
    obtain ⟨K, rfl⟩ : ∃ j, K = j + 1 := ⟨K - 1, by omega⟩
    simp only [spec_dyRead.l0]
    rw [if_neg (by omega)]
  | succ d ih =>
    intro i a hi
    obtain ⟨r, hr⟩ := ih (i + 1) (wrap64 ((wrap64 (10 * a)) + (((bt x (i : Int)) - 48) % 256))) (by omega)
    refine ⟨if (bt x (i : Int)) < 48 then 2199023255552 else (if (bt x (i : Int)) > 57 then 2199023255552 else (if a > 10995116277760 then 2199023255552 else r)), fun K hK => ?_⟩
    obtain ⟨K, rfl⟩ : ∃ j, K = j + 1 := ⟨K - 1, by omega⟩
    simp only [spec_dyRead.l0]
    rw [if_pos (by omega), if_pos (by omega), w64 (x := (i : Int) + 1) (by omega) (by omega), show (i : Int) + 1 = ((i + 1 : Nat) : Int) by omega, hr K (by omega)]
    split
    · rfl
    · split
      · rfl
      · split <;> rfl
theorem dyRead_any {x : ByteArray} (hx : x.size ≤ 1000000) : ∃ r, ∀ K, x.size + 4 < K → spec_dyRead.f K x = some r := by
  have j0 : ∀ b : Bool, (b = true → 0 < x.size) → ∃ r, ∀ K, x.size + 4 < K → spec_dyRead.j0 K x 1 b = some r := by
    intro b hb
    cases b with
    | true =>
      have h0 := hb rfl
      have hz : (x.extract 1 x.size).size = x.size - 1 := by rw [ByteArray.size_extract]; omega
      obtain ⟨r, hr⟩ := dyRead_tot (x := x.extract 1 x.size) (by omega) (-1) (x.size - 1) 0 0 (by omega)
      refine ⟨r, fun K hK => ?_⟩
      obtain ⟨K, rfl⟩ : ∃ j, K = j + 1 + 1 := ⟨K - 2, by omega⟩
      simp only [spec_dyRead.j0, spec_dyRead.j1]
      rw [if_pos trivial, if_pos (by omega)]
      exact hr K (by omega)
    | false =>
      obtain ⟨r, hr⟩ := dyRead_tot hx 1 x.size 0 0 (by omega)
      refine ⟨r, fun K hK => ?_⟩
      obtain ⟨K, rfl⟩ : ∃ j, K = j + 1 + 1 := ⟨K - 2, by omega⟩
      simp only [spec_dyRead.j0, spec_dyRead.j1]
      rw [if_neg (by decide)]
      exact hr K (by omega)
  by_cases h : 0 < x.size
  · obtain ⟨r, hr⟩ := j0 ((bt x 0) == 45) (fun _ => h)
    refine ⟨r, fun K hK => ?_⟩
    unfold spec_dyRead.f
    rw [if_pos (by omega), if_pos (by omega)]; exact hr K hK
  · obtain ⟨r, hr⟩ := j0 false (fun e => by cases e)
    refine ⟨r, fun K hK => ?_⟩
    unfold spec_dyRead.f
    rw [if_neg (by omega)]; exact hr K hK
theorem dyRead_itoa {n : Int} (h : Small n) {x : ByteArray} (hx : bl x = Lib.itoa n) : ∀ K, 24 < K → spec_dyRead.f K x = some n := by
  intro K hK
  have hl := itoa_short h
  have h1 := h.1
  have h2 := h.2
  have hz := bl_len x
  rw [hx] at hz
  obtain ⟨K, rfl⟩ : ∃ j, K = j + 1 + 1 := ⟨K - 2, by omega⟩
  unfold spec_dyRead.f
  rcases itoa_cases n with ⟨hn, e⟩ | ⟨hn, e⟩
  · have hs : 0 < x.size := by rw [← hz, e]; simp
    have hb : bt x 0 = 45 := by
      have := bt_bl x 0 hs
      rw [hx, e] at this
      exact this
    have hx' : bl (x.extract 1 x.size) = Lib.decDigits n.natAbs := by rw [bl_drop, hx, e]; rfl
    have hz' : (x.extract 1 x.size).size = x.size - 1 := by rw [ByteArray.size_extract]; omega
    have := dyRead_l0 (x := x.extract 1 x.size) (by omega) (-1) (x.size - 1) 0 K 0 (by omega) (by rw [List.drop_zero, hx']; exact dec_dg _) (by rw [List.drop_zero, hx', dec_val]; omega) (by omega)
    rw [List.drop_zero, hx', dec_val] at this
    rw [if_pos (by omega), if_pos (by omega), hb]
    simp only [spec_dyRead.j0, spec_dyRead.j1]
    rw [if_pos (by decide), if_pos (by omega)]
    refine this.trans ?_
    rw [w64 (by omega) (by omega)]; congr 1; omega
  · have hs : 0 < x.size := by rw [← hz, e]; exact List.length_pos_iff.2 (dec_ne _)
    have hb : ((bt x 0) == 45) = false := by
      have := bt_bl x 0 hs
      rw [show ((0 : Nat) : Int) = 0 from rfl] at this
      rw [this, hx, e]
      have hc := dec_dg n.natAbs ((Lib.decDigits n.natAbs).getD 0 0) (by
        cases hq : Lib.decDigits n.natAbs with
        | nil => exact absurd hq (dec_ne _)
        | cons c l => exact List.mem_cons_self ..)
      unfold dg at hc
      rw [beq_eq_false_iff_ne]; omega
    have := dyRead_l0 (x := x) (by omega) 1 x.size 0 K 0 (by omega) (by rw [List.drop_zero, hx, e]; exact dec_dg _) (by rw [List.drop_zero, hx, e, dec_val]; omega) (by omega)
    rw [List.drop_zero, hx, e, dec_val] at this
    rw [if_pos (by omega), if_pos (by omega), hb]
    simp only [spec_dyRead.j0, spec_dyRead.j1]
    rw [if_neg (by decide)]
    refine this.trans ?_
    rw [w64 (by omega) (by omega)]; congr 1; omega
theorem l1Read_l0 {x : ByteArray} (hx : x.size ≤ 1000000) : ∀ (d i K a : Nat), i + d = x.size → (∀ c ∈ (bl x).drop i, dg c) → dval a ((bl x).drop i) ≤ 1099511627776 → d < K → spec_l1Read.l0 K x (a : Int) (i : Int) = some ((dval a ((bl x).drop i) : Nat) : Int) := by
  intro d
  induction d with
  | zero =>
    intro i K a hi _ _ hK
    obtain ⟨K, rfl⟩ : ∃ j, K = j + 1 := ⟨K - 1, by omega⟩
    obtain rfl : i = x.size := by omega
    simp only [spec_l1Read.l0]
    rw [if_neg (by omega), drop_end]; rfl
  | succ d ih =>
    intro i K a hi hd hv hK
    obtain ⟨K, rfl⟩ : ∃ j, K = j + 1 := ⟨K - 1, by omega⟩
    have hil : i < x.size := by omega
    rw [drop_cons hil] at hd hv ⊢
    have hc := hd _ (List.mem_cons_self ..)
    have hge : 10 * a + (((bl x).getD i 0).toNat - 48) ≤ dval a ((bl x).getD i 0 :: (bl x).drop (i + 1)) := dval_ge _ _
    have hv' : dval (10 * a + (((bl x).getD i 0).toNat - 48)) ((bl x).drop (i + 1)) ≤ 1099511627776 := hv
    have ih' := ih (i + 1) K (10 * a + (((bl x).getD i 0).toNat - 48)) (by omega) (fun c h => hd c (List.mem_cons_of_mem _ h)) hv' (by omega)
    unfold dg at hc
    simp only [spec_l1Read.l0]
    rw [if_pos (by omega), if_pos (by omega), bt_bl x i hil, if_neg (by omega), if_neg (by omega), w64 (x := 10 * (a : Int)) (by omega) (by omega), Int.emod_eq_of_lt (by omega) (by omega), w64 (x := 10 * (a : Int) + _) (by omega) (by omega), w64 (x := (i : Int) + 1) (by omega) (by omega)]
    rw [show 10 * (a : Int) + ((((bl x).getD i 0).toNat : Int) - 48) = ((10 * a + (((bl x).getD i 0).toNat - 48) : Nat) : Int) by omega, show (i : Int) + 1 = ((i + 1 : Nat) : Int) by omega, ih']
    rfl
theorem l1Read_tot {x : ByteArray} (hx : x.size ≤ 1000000) : ∀ (d i : Nat) (a : Int), i + d = x.size → ∃ r, ∀ K, d < K → spec_l1Read.l0 K x a (i : Int) = some r := by
  intro d
  induction d with
  | zero =>
    intro i a hi
    refine ⟨a, fun K hK => ?_⟩
    obtain ⟨K, rfl⟩ : ∃ j, K = j + 1 := ⟨K - 1, by omega⟩
    simp only [spec_l1Read.l0]
    rw [if_neg (by omega)]
  | succ d ih =>
    intro i a hi
    obtain ⟨r, hr⟩ := ih (i + 1) (wrap64 ((wrap64 (10 * a)) + (((bt x (i : Int)) - 48) % 256))) (by omega)
    refine ⟨if (bt x (i : Int)) < 48 then -1 else (if (bt x (i : Int)) > 57 then -1 else r), fun K hK => ?_⟩
    obtain ⟨K, rfl⟩ : ∃ j, K = j + 1 := ⟨K - 1, by omega⟩
    simp only [spec_l1Read.l0]
    rw [if_pos (by omega), if_pos (by omega), w64 (x := (i : Int) + 1) (by omega) (by omega), show (i : Int) + 1 = ((i + 1 : Nat) : Int) by omega, hr K (by omega)]
    split
    · rfl
    · split <;> rfl
theorem l1Read_any {x : ByteArray} (hx : x.size ≤ 1000000) : ∃ r, ∀ K, x.size + 2 < K → spec_l1Read.f K x = some r := by
  have j0 : ∀ b : Bool, ∃ r, ∀ K, x.size + 2 < K → spec_l1Read.j0 K x b = some r := by
    intro b
    cases b with
    | true =>
      refine ⟨-1, fun K hK => ?_⟩
      obtain ⟨K, rfl⟩ : ∃ j, K = j + 1 := ⟨K - 1, by omega⟩
      simp only [spec_l1Read.j0]; rw [if_pos trivial]
    | false =>
      obtain ⟨r, hr⟩ := l1Read_tot hx x.size 0 0 (by omega)
      refine ⟨r, fun K hK => ?_⟩
      obtain ⟨K, rfl⟩ : ∃ j, K = j + 1 := ⟨K - 1, by omega⟩
      simp only [spec_l1Read.j0]; rw [if_neg (by decide)]; exact hr K (by omega)
  by_cases c : 1 ≤ (x.size : Int) ∧ (x.size : Int) ≤ 6
  · by_cases c2 : bt x 0 = 48
    · obtain ⟨r, hr⟩ := j0 (decide ((x.size : Int) > 1))
      refine ⟨r, fun K hK => ?_⟩
      unfold spec_l1Read.f
      rw [l1In_eq, decide_eq_true c]; simp only [bs2, if_true]
      rw [if_pos (by omega), if_pos c2]; exact hr K hK
    · obtain ⟨r, hr⟩ := j0 false
      refine ⟨r, fun K hK => ?_⟩
      unfold spec_l1Read.f
      rw [l1In_eq, decide_eq_true c]; simp only [bs2, if_true]
      rw [if_pos (by omega), if_neg c2]; exact hr K hK
  · obtain ⟨r, hr⟩ := j0 true
    refine ⟨r, fun K hK => ?_⟩
    unfold spec_l1Read.f
    rw [l1In_eq, decide_eq_false c]; simp only [bs2]
    rw [if_neg (by decide)]; exact hr K hK
theorem l1Read_dec {k : Nat} (h1 : 1 ≤ k) (h24 : k ≤ 24) {x : ByteArray} (hx : bl x = Lib.decDigits k) : ∀ K, 24 < K → spec_l1Read.f K x = some (k : Int) := by
  intro K hK
  have hl := dec_short 1 k (by omega)
  have hz := bl_len x
  rw [hx] at hz
  have hp : 0 < (Lib.decDigits k).length := List.length_pos_iff.2 (dec_ne _)
  have hb : bt x 0 ≠ 48 := by
    have := bt_bl x 0 (by omega)
    rw [show ((0 : Nat) : Int) = 0 from rfl] at this
    rw [this, hx]
    by_cases c : k < 10
    · rw [Lib.decDigits_one c]
      show ((UInt8.ofNat (48 + k)).toNat : Int) ≠ 48
      rw [digit_nat c]; omega
    · rw [Lib.decDigits_two c (by omega)]
      show ((UInt8.ofNat (48 + k / 10)).toNat : Int) ≠ 48
      rw [digit_nat (by omega)]; omega
  obtain ⟨K, rfl⟩ : ∃ j, K = j + 1 := ⟨K - 1, by omega⟩
  have := l1Read_l0 (x := x) (by omega) x.size 0 K 0 (by omega) (by rw [List.drop_zero, hx]; exact dec_dg _) (by rw [List.drop_zero, hx, dec_val]; omega) (by omega)
  rw [List.drop_zero, hx, dec_val] at this
  unfold spec_l1Read.f
  rw [l1In_eq, decide_eq_true (show 1 ≤ (x.size : Int) ∧ (x.size : Int) ≤ 6 by omega)]; simp only [bs2, if_true]
  rw [if_pos (by omega), if_neg hb]
  simp only [spec_l1Read.j0]
  rw [if_neg (by decide)]; exact this
/-! splitting -/
theorem split_adv {s : ByteArray} (hs : s.size ≤ 1000000) (acc : List ByteArray) (fr : Int) : ∀ (d i K : Nat), i + d ≤ s.size → (∀ q, i ≤ q → q < i + d → ((bl s).getD q 0).toNat ≠ 47) → spec_l1Split.l0 (K + d) s 47 acc fr (i : Int) = spec_l1Split.l0 K s 47 acc fr ((i + d : Nat) : Int) := by
  intro d
  induction d with
  | zero => intro i K _ _; rfl
  | succ d ih =>
    intro i K hi hq
    have hb : ¬ bt s (i : Int) = 47 := by
      rw [bt_bl s i (by omega)]
      have := hq i (Nat.le_refl _) (by omega)
      omega
    rw [show K + (d + 1) = (K + d) + 1 by omega]
    conv => lhs; simp only [spec_l1Split.l0]
    rw [if_pos (by omega), if_pos (by omega), if_neg hb, w64 (x := (i : Int) + 1) (by omega) (by omega), show (i : Int) + 1 = ((i + 1 : Nat) : Int) by omega, ih (i + 1) K (by omega) (fun q h1 h2 => hq q (by omega) (by omega)), show i + 1 + d = i + (d + 1) by omega]
theorem split_end {s : ByteArray} (acc : List ByteArray) (fr K : Nat) (h1 : fr ≤ s.size) (h2 : acc.length < 8796093022208) : spec_l1Split.l0 (K + 1) s 47 acc (fr : Int) (s.size : Int) = some (acc ++ [s.extract fr s.size]) := by
  simp only [spec_l1Split.l0]
  rw [if_neg (by omega), if_pos (by omega), if_pos (by omega), if_pos (by omega), Int.toNat_natCast]
theorem split_any {s : ByteArray} (hs : s.size ≤ 1000000) : ∀ (d i fr : Nat) (acc : List ByteArray), i + d = s.size → fr ≤ i → acc.length ≤ i → (∀ x ∈ acc, x.size ≤ 1000000) → ∃ ws : List ByteArray, 0 < ws.length ∧ (∀ x ∈ ws, x.size ≤ 1000000) ∧ ∀ K, d < K → spec_l1Split.l0 K s 47 acc (fr : Int) (i : Int) = some ws := by
  intro d
  induction d with
  | zero =>
    intro i fr acc hi hf ha hx
    refine ⟨acc ++ [s.extract fr s.size], by simp, ?_, fun K hK => ?_⟩
    · intro x h
      rcases List.mem_append.1 h with h | h
      · exact hx x h
      · rw [List.mem_singleton.1 h, ByteArray.size_extract]; omega
    · obtain ⟨K, rfl⟩ : ∃ j, K = j + 1 := ⟨K - 1, by omega⟩
      obtain rfl : i = s.size := by omega
      exact split_end acc fr K hf (by omega)
  | succ d ih =>
    intro i fr acc hi hf ha hx
    have hw : wrap64 ((i : Int) + 1) = ((i + 1 : Nat) : Int) := by rw [w64 (by omega) (by omega)]; omega
    by_cases c : bt s (i : Int) = 47
    · have hx' : ∀ x ∈ acc ++ [s.extract fr i], x.size ≤ 1000000 := by
        intro x h
        rcases List.mem_append.1 h with h | h
        · exact hx x h
        · rw [List.mem_singleton.1 h, ByteArray.size_extract]; omega
      obtain ⟨ws, h0, h1, h2⟩ := ih (i + 1) (i + 1) (acc ++ [s.extract fr i]) (by omega) (Nat.le_refl _) (by rw [List.length_append, List.length_singleton]; omega) hx'
      refine ⟨ws, h0, h1, fun K hK => ?_⟩
      obtain ⟨K, rfl⟩ : ∃ j, K = j + 1 := ⟨K - 1, by omega⟩
      simp only [spec_l1Split.l0]
      rw [if_pos (by omega), if_pos (by omega), if_pos c, if_pos (by omega), if_pos (by omega), if_pos (by omega), if_pos (by omega), hw, Int.toNat_natCast, Int.toNat_natCast]
      exact h2 K (by omega)
    · obtain ⟨ws, h0, h1, h2⟩ := ih (i + 1) fr acc (by omega) (by omega) (by omega) hx
      refine ⟨ws, h0, h1, fun K hK => ?_⟩
      obtain ⟨K, rfl⟩ : ∃ j, K = j + 1 := ⟨K - 1, by omega⟩
      simp only [spec_l1Split.l0]
      rw [if_pos (by omega), if_pos (by omega), if_neg c, hw]
      exact h2 K (by omega)
end Go.Proofs.YtlmpdahiekflcaaDoor.PD
