import Derived.Test.YtlmpdahiekflcaaDoorQParsicPDx1
import Derived.Test.YtlmpdahiekflcaaDoorQParsicNc
/- Parsing a dyadic number, joined: plain lemmas on the printed functions. -/
namespace Go.Proofs.YtlmpdahiekflcaaDoor.PD
open Go.RowKit Go.Proofs.YtlmpdahiekflcaaDoorW.PrintWords Go.Proofs.YtlmpdahiekflcaaDoorW.PrintLast Go.Proofs.YtlmpdahiekflcaaDoorW.PrintMore
/-- What both answer at s. -/
def ShapeP (s : ByteArray) (r : Int × Int × Bool) : Prop := r = (0, 0, false) ∨ ∃ n k, good n k = true ∧ txt n k = s ∧ r = (n, k, true)
theorem j2_any (s : ByteArray) (n k : Int) : ∃ r N, (∀ K, N ≤ K → spec_dyParse.j2 K s n k = some r) ∧ ShapeP s r := by
  by_cases g : good n k = true
  · obtain ⟨N, hN⟩ := dyText_ev g
    dsimp only at hN
    by_cases c : (txt n k).toList = s.toList
    · refine ⟨(n, k, true), N + 1, fun K hK => ?_, .inr ⟨n, k, g, toList_inj c, rfl⟩⟩
      obtain ⟨K, rfl⟩ : ∃ j, K = j + 1 := ⟨K - 1, by omega⟩
      simp only [spec_dyParse.j2]
      rw [dyGood_eq, g]; simp only [bs2, if_true]
      rw [hN K (by omega)]; simp only [bs2]
      rw [if_pos c]
    · refine ⟨(0, 0, false), N + 1, fun K hK => ?_, .inl rfl⟩
      obtain ⟨K, rfl⟩ : ∃ j, K = j + 1 := ⟨K - 1, by omega⟩
      simp only [spec_dyParse.j2]
      rw [dyGood_eq, g]; simp only [bs2, if_true]
      rw [hN K (by omega)]; simp only [bs2]
      rw [if_neg c]
  · refine ⟨(0, 0, false), 1, fun K hK => ?_, .inl rfl⟩
    obtain ⟨K, rfl⟩ : ∃ j, K = j + 1 := ⟨K - 1, by omega⟩
    simp only [spec_dyParse.j2]
    rw [dyGood_eq]; simp only [bs2]
    rw [if_neg g]
theorem j1_any {s : ByteArray} {ws : List ByteArray} (hw : ∀ x ∈ ws, x.size ≤ 1000000) (b : Bool) (n k : Int) (hb : b = true → 1 < ws.length ∧ 2 < (rdOf ByteArray.empty ws 1).size) : ∃ r N, (∀ K, N ≤ K → spec_dyParse.j1 K s ws b n k = some r) ∧ ShapeP s r := by
  cases b with
  | true =>
    obtain ⟨h1, h2⟩ := hb rfl
    have hm : rdOf ByteArray.empty ws 1 ∈ ws := by
      unfold rdOf
      rw [show (1 : Int).toNat = 1 from rfl, List.getD_eq_getElem?_getD, List.getElem?_eq_getElem h1]
      exact List.getElem_mem h1
    have hz := hw _ hm
    obtain ⟨m, hr⟩ := l1Read_any (x := (rdOf ByteArray.empty ws 1).extract 2 (rdOf ByteArray.empty ws 1).size) (by rw [ByteArray.size_extract]; omega)
    obtain ⟨r, N, h3, h4⟩ := j2_any s n m
    refine ⟨r, N + 1000010, fun K hK => ?_, h4⟩
    obtain ⟨K, rfl⟩ : ∃ j, K = j + 1 := ⟨K - 1, by omega⟩
    simp only [spec_dyParse.j1]
    rw [if_pos trivial, if_pos (by omega), if_pos (by omega), hr K (by rw [ByteArray.size_extract]; omega)]; simp only [bs2]
    exact h3 K (by omega)
  | false =>
    obtain ⟨r, N, h3, h4⟩ := j2_any s n k
    refine ⟨r, N + 1, fun K hK => ?_, h4⟩
    obtain ⟨K, rfl⟩ : ∃ j, K = j + 1 := ⟨K - 1, by omega⟩
    simp only [spec_dyParse.j1]
    rw [if_neg (by decide)]
    exact h3 K (by omega)
theorem dyParse_any {s : ByteArray} (hs : s.size ≤ 1000000) : ∃ r N, (∀ K, N ≤ K → spec_dyParse.f K s = some r) ∧ ShapeP s r := by
  obtain ⟨ws, h0, h1, h2⟩ := split_any hs s.size 0 0 [] (by omega) (Nat.le_refl _) (Nat.le_refl _) (fun x hx => by cases hx)
  have hsp : ∀ K, s.size < K → spec_l1Split.f K s 47 = some ws := fun K hK => h2 K hK
  have j0 : ∀ b : Bool, ∃ r N, (∀ K, N ≤ K → spec_dyParse.j0 K s ws b = some r) ∧ ShapeP s r := by
    intro b
    cases b with
    | true =>
      refine ⟨(0, 0, false), 1, fun K hK => ?_, .inl rfl⟩
      obtain ⟨K, rfl⟩ : ∃ j, K = j + 1 := ⟨K - 1, by omega⟩
      simp only [spec_dyParse.j0]; rw [if_pos trivial]
    | false =>
      have hm : rdOf ByteArray.empty ws 0 ∈ ws := by
        unfold rdOf
        rw [show (0 : Int).toNat = 0 from rfl, List.getD_eq_getElem?_getD, List.getElem?_eq_getElem h0]
        exact List.getElem_mem h0
      have hz := h1 _ hm
      obtain ⟨n, hn⟩ := dyRead_any hz
      by_cases c : (ws.length : Int) = 2
      · obtain ⟨r, N, h3, h4⟩ := j1_any (s := s) h1 (decide (((rdOf ByteArray.empty ws 1).size : Int) > 2)) n 0 (fun e => ⟨by omega, by have := of_decide_eq_true e; omega⟩)
        refine ⟨r, N + 1000010, fun K hK => ?_, h4⟩
        obtain ⟨K, rfl⟩ : ∃ j, K = j + 1 := ⟨K - 1, by omega⟩
        simp only [spec_dyParse.j0]
        rw [if_neg (by decide), if_pos (by omega), hn K (by omega)]; simp only [bs2]
        rw [if_pos c, if_pos (by omega)]; exact h3 K (by omega)
      · obtain ⟨r, N, h3, h4⟩ := j1_any (s := s) h1 false n 0 (fun e => by cases e)
        refine ⟨r, N + 1000010, fun K hK => ?_, h4⟩
        obtain ⟨K, rfl⟩ : ∃ j, K = j + 1 := ⟨K - 1, by omega⟩
        simp only [spec_dyParse.j0]
        rw [if_neg (by decide), if_pos (by omega), hn K (by omega)]; simp only [bs2]
        rw [if_neg c]; exact h3 K (by omega)
  by_cases c : (s.size : Int) > 20
  · obtain ⟨r, N, h3, h4⟩ := j0 true
    refine ⟨r, N + s.size + 1, fun K hK => ?_, h4⟩
    unfold spec_dyParse.f
    rw [hsp K (by omega)]; simp only [bs2]
    rw [if_pos c]; exact h3 K (by omega)
  · obtain ⟨r, N, h3, h4⟩ := j0 (decide ((ws.length : Int) > 2))
    refine ⟨r, N + s.size + 1, fun K hK => ?_, h4⟩
    unfold spec_dyParse.f
    rw [hsp K (by omega)]; simp only [bs2]
    rw [if_neg c]; exact h3 K (by omega)
/-! at a text -/
theorem A_bl (n : Int) : bl (A n) = Lib.itoa n := rfl
theorem bl_append (a b : ByteArray) : bl (a ++ b) = bl a ++ bl b := by unfold bl; simp [ByteArray.data_append]
theorem txt_bl (n k : Int) : bl (txt n k) = if k = 0 then Lib.itoa n else Lib.itoa n ++ 47 :: 50 :: 94 :: Lib.itoa k := by
  unfold txt
  split
  · rfl
  · rw [bl_append, bl_append, A_bl, A_bl]
    show (Lib.itoa n ++ [47, 50, 94]) ++ Lib.itoa k = _
    rw [List.append_assoc]; rfl
theorem itoa_nat (k : Nat) : Lib.itoa (k : Int) = Lib.decDigits k := Lib.itoa_nonneg k
theorem txt_short {n k : Int} (g : good n k = true) : (txt n k).size ≤ 20 := by
  have h := good_iff.1 g
  have h1 := itoa_short (good_small g)
  obtain ⟨j, rfl⟩ := Int.eq_ofNat_of_zero_le h.1
  have h2 := dec_short 1 j (by omega)
  rw [← bl_len, txt_bl]
  split
  · omega
  · rw [List.length_append, List.length_cons, List.length_cons, List.length_cons, itoa_nat]; omega
theorem split_txt {n k : Int} (g : good n k = true) : ∃ N, ∀ K, N ≤ K → spec_l1Split.f K (txt n k) 47 = some (if k = 0 then [txt n k] else [(txt n k).extract 0 (Lib.itoa n).length, (txt n k).extract ((Lib.itoa n).length + 1) (txt n k).size]) := by
  have hz := txt_short g
  have hb := txt_bl n k
  have hl := bl_len (txt n k)
  generalize txt n k = s at hz hb hl ⊢
  by_cases c : k = 0
  · rw [if_pos c] at hb ⊢
    refine ⟨s.size + 1, fun K hK => ?_⟩
    obtain ⟨K, rfl⟩ : ∃ j, K = j + 1 + s.size := ⟨K - 1 - s.size, by omega⟩
    have := split_adv (s := s) (by omega) [] 0 s.size 0 (K + 1) (by omega) (fun q _ hq => by
      rw [hb]
      have hq' : q < (Lib.itoa n).length := by rw [← hb, hl]; omega
      rw [List.getD_eq_getElem?_getD, List.getElem?_eq_getElem hq']
      exact itoa_no n _ (List.getElem_mem hq'))
    rw [Nat.zero_add] at this
    unfold spec_l1Split.f
    refine Eq.trans this ?_
    rw [show (0 : Int) = ((0 : Nat) : Int) from rfl, split_end [] 0 K (by omega) (by simp)]
    show some [s.extract 0 s.size] = _
    congr 2
    exact bl_inj (by rw [bl_drop, List.drop_zero])
  · rw [if_neg c] at hb ⊢
    have hm : (Lib.itoa n).length + 1 ≤ s.size := by rw [← hl, hb, List.length_append, List.length_cons]; omega
    generalize hmm : (Lib.itoa n).length = m at hm ⊢
    refine ⟨s.size + 3, fun K hK => ?_⟩
    obtain ⟨K, rfl⟩ : ∃ j, K = ((j + 1 + (s.size - (m + 1))) + 1) + m := ⟨K - m - 1 - (s.size - (m + 1)) - 1, by omega⟩
    have a1 := split_adv (s := s) (by omega) [] 0 m 0 ((K + 1 + (s.size - (m + 1))) + 1) (by omega) (fun q _ hq => by
      have hq' : q < (Lib.itoa n).length := by omega
      rw [hb, List.getD_eq_getElem?_getD, List.getElem?_append_left hq', List.getElem?_eq_getElem hq']
      exact itoa_no n _ (List.getElem_mem hq'))
    rw [Nat.zero_add] at a1
    have a2 := split_adv (s := s) (by omega) [s.extract 0 m] ((m + 1 : Nat) : Int) (s.size - (m + 1)) (m + 1) (K + 1) (by omega) (fun q h1 hq => by
      rw [hb, List.getD_eq_getElem?_getD, List.getElem?_append_right (by omega), hmm, show q - m = (q - m - 1) + 1 by omega, List.getElem?_cons_succ]
      have hk := good_iff.1 g
      obtain ⟨j, rfl⟩ := Int.eq_ofNat_of_zero_le hk.1
      have hlen : (50 :: 94 :: Lib.itoa (j : Int) : List UInt8).length + m + 1 = s.size := by have := hl; rw [hb] at this; simp only [List.length_append, List.length_cons, hmm] at this ⊢; omega
      have hq' : q - m - 1 < (50 :: 94 :: Lib.itoa (j : Int) : List UInt8).length := by omega
      rw [List.getElem?_eq_getElem hq']
      have hmem := List.getElem_mem hq'
      show ((50 :: 94 :: Lib.itoa (j : Int) : List UInt8)[q - m - 1]).toNat ≠ 47
      rcases List.mem_cons.1 hmem with e | hmem
      · rw [e]; decide
      · rcases List.mem_cons.1 hmem with e | hmem
        · rw [e]; decide
        · exact itoa_no _ _ hmem)
    have hbt : bt s (m : Int) = 47 := by
      rw [bt_bl s m (by omega), hb, List.getD_eq_getElem?_getD, List.getElem?_append_right (by omega), hmm, Nat.sub_self]; rfl
    unfold spec_l1Split.f
    refine Eq.trans a1 ?_
    conv => lhs; simp only [spec_l1Split.l0]
    rw [if_pos (by omega), if_pos (by omega), if_pos hbt, if_pos (by omega), if_pos (by omega), if_pos (by omega), if_pos (by simp), w64 (x := (m : Int) + 1) (by omega) (by omega), Int.toNat_natCast, show (m : Int) + 1 = ((m + 1 : Nat) : Int) by omega]
    refine Eq.trans a2 ?_
    rw [show m + 1 + (s.size - (m + 1)) = s.size by omega, split_end [s.extract 0 m] (m + 1) K (by omega) (by simp)]
    rfl
theorem j2_txt {n k : Int} (g : good n k = true) : ∃ N, ∀ K, N ≤ K → spec_dyParse.j2 K (txt n k) n k = some (n, k, true) := by
  obtain ⟨N, hN⟩ := dyText_ev g
  dsimp only at hN
  refine ⟨N + 1, fun K hK => ?_⟩
  obtain ⟨K, rfl⟩ : ∃ j, K = j + 1 := ⟨K - 1, by omega⟩
  simp only [spec_dyParse.j2]
  rw [dyGood_eq, g]; simp only [bs2, if_true]
  rw [hN K (by omega)]; simp only [bs2, if_true]
theorem dyParse_txt {n k : Int} (g : good n k = true) : ∃ N, ∀ K, N ≤ K → spec_dyParse.f K (txt n k) = some (n, k, true) := by
  obtain ⟨N1, h1⟩ := split_txt g
  obtain ⟨N2, h2⟩ := j2_txt g
  have hz := txt_short g
  have hb := txt_bl n k
  have hl := bl_len (txt n k)
  have hsm := good_small g
  by_cases c : k = 0
  · subst c
    rw [if_pos rfl] at hb h1
    refine ⟨N1 + N2 + 40, fun K hK => ?_⟩
    obtain ⟨K, rfl⟩ : ∃ j, K = j + 1 + 1 := ⟨K - 2, by omega⟩
    unfold spec_dyParse.f
    rw [h1 _ (by omega)]; simp only [bs2]
    rw [if_neg (by omega)]
    simp only [spec_dyParse.j0]
    rw [if_neg (by simp), if_pos (by simp), show rdOf ByteArray.empty [txt n 0] 0 = txt n 0 from rfl, dyRead_itoa hsm hb _ (by omega)]; simp only [bs2]
    rw [if_neg (by simp)]
    simp only [spec_dyParse.j1]
    rw [if_neg (by decide)]
    exact h2 K (by omega)
  · rw [if_neg c] at hb h1
    have hk := good_iff.1 g
    obtain ⟨j, rfl⟩ := Int.eq_ofNat_of_zero_le hk.1
    generalize hs : txt n (j : Int) = s at hz hb hl h1 h2 ⊢
    generalize hmm : (Lib.itoa n).length = m at h1
    have hlen : m + 3 + (Lib.itoa (j : Int)).length = s.size := by rw [← hl, hb, List.length_append, List.length_cons, List.length_cons, List.length_cons, hmm]; omega
    have hp : 0 < (Lib.itoa (j : Int)).length := by rw [itoa_nat]; exact List.length_pos_iff.2 (dec_ne _)
    have e0 : bl (s.extract 0 m) = Lib.itoa n := by rw [bl_take, hb, ← hmm, List.take_left']; rfl
    have z1 : (s.extract (m + 1) s.size).size = s.size - (m + 1) := by rw [ByteArray.size_extract]; omega
    have e1 : bl (s.extract (m + 1) s.size) = 50 :: 94 :: Lib.itoa (j : Int) := by
      rw [bl_drop, hb, List.drop_append, List.drop_eq_nil_of_le (by omega), hmm, show m + 1 - m = 1 by omega]; rfl
    have e2 : bl ((s.extract (m + 1) s.size).extract 2 (s.extract (m + 1) s.size).size) = Lib.decDigits j := by
      rw [bl_drop, e1, ← itoa_nat]; rfl
    refine ⟨N1 + N2 + 40, fun K hK => ?_⟩
    obtain ⟨K, rfl⟩ : ∃ j, K = j + 1 + 1 := ⟨K - 2, by omega⟩
    unfold spec_dyParse.f
    rw [h1 _ (by omega)]; simp only [bs2]
    rw [if_neg (by omega)]
    simp only [spec_dyParse.j0]
    rw [if_neg (by simp), if_pos (by simp), show rdOf ByteArray.empty [s.extract 0 m, s.extract (m + 1) s.size] 0 = s.extract 0 m from rfl, dyRead_itoa hsm e0 _ (by omega)]; simp only [bs2]
    rw [if_pos (by simp), if_pos (by simp), show rdOf ByteArray.empty [s.extract 0 m, s.extract (m + 1) s.size] 1 = s.extract (m + 1) s.size from rfl, decide_eq_true (by omega)]
    simp only [spec_dyParse.j1]
    rw [if_pos trivial, if_pos (by simp), show rdOf ByteArray.empty [s.extract 0 m, s.extract (m + 1) s.size] 1 = s.extract (m + 1) s.size from rfl, if_pos (by omega), l1Read_dec (by omega) (by omega) e2 _ (by omega)]; simp only [bs2]
    exact h2 K (by omega)
/-! the program -/
theorem pu10 : ∀ (l : List UInt8) (a : Nat), (∀ c ∈ l, dg c) → dval a l ≤ 1099511627776 → Lib.parseUint10 a l = .ok (dval a l)
  | [], _, _, _ => rfl
  | c :: l, a, hd, hv => by
    have hc := hd c (List.mem_cons_self ..)
    have hge : 10 * a + (c.toNat - 48) ≤ dval a (c :: l) := dval_ge l _
    unfold dg at hc
    have e : a * 10 + (c.toNat - 48) = 10 * a + (c.toNat - 48) := by omega
    simp only [Lib.parseUint10]
    rw [if_pos hc, if_neg (by omega), if_neg (by omega), e]
    exact pu10 l _ (fun x hx => hd x (List.mem_cons_of_mem _ hx)) hv
theorem atoi_itoa {n : Int} (h : Small n) : Lib.atoiAll (Lib.itoa n) = .ok n := by
  have h1 := h.1
  have h2 := h.2
  have hm : Lib.parseMag (Lib.decDigits n.natAbs) = .ok n.natAbs := by
    unfold Lib.parseMag
    rw [if_neg (dec_ne _), pu10 _ 0 (dec_dg _) (by rw [dec_val]; omega), dec_val]
  rcases itoa_cases n with ⟨hn, e⟩ | ⟨hn, e⟩
  · rw [e, Lib.atoiAll_minus, hm]
    unfold Lib.signed
    simp only
    rw [if_neg (by omega)]; congr 1; omega
  · rw [e]
    cases hq : Lib.decDigits n.natAbs with
    | nil => exact absurd hq (dec_ne _)
    | cons c l =>
      have hc := dec_dg n.natAbs c (by rw [hq]; exact List.mem_cons_self ..)
      unfold dg at hc
      rw [Lib.atoiAll_plain c l (by omega) (by omega), ← hq, hm]
      unfold Lib.signless
      simp only
      rw [if_neg (by omega)]; congr 1; omega
theorem occ_no {l : List UInt8} {j : Nat} (h : ∀ c, l[j]? = some c → c.toNat ≠ 47) : Lib.occAt l [47, 50, 94] j = false := by
  unfold Lib.occAt
  cases hd : l.drop j with
  | nil => rfl
  | cons c r =>
    have hj : l[j]? = some c := by rw [← List.head?_drop, hd]; rfl
    have := h c hj
    have hne : ((47 : UInt8) == c) = false := by
      rw [beq_eq_false_iff_ne]; intro e; rw [← e] at this; exact this rfl
    simp [List.isPrefixOf, hne]
theorem cut_none {n : Int} : Lib.cut (Lib.itoa n) [47, 50, 94] = (Lib.itoa n, [], false) := by
  have : Lib.index (Lib.itoa n) [47, 50, 94] = -1 := Lib.index_none (fun j _ => occ_no (fun c hc => by
    obtain ⟨hj, e⟩ := List.getElem?_eq_some_iff.1 hc
    rw [← e]; exact itoa_no n _ (List.getElem_mem hj)))
  unfold Lib.cut
  rw [this, if_neg (by omega)]
theorem cut_some (n k : Int) : Lib.cut (Lib.itoa n ++ 47 :: 50 :: 94 :: Lib.itoa k) [47, 50, 94] = (Lib.itoa n, Lib.itoa k, true) := by
  have : Lib.index (Lib.itoa n ++ 47 :: 50 :: 94 :: Lib.itoa k) [47, 50, 94] = (Lib.itoa n).length := by
    refine Lib.index_first (by rw [List.length_append]; omega) ?_ (fun j hj => occ_no (fun c hc => ?_))
    · unfold Lib.occAt
      rw [List.drop_left']
      · simp [List.isPrefixOf]
      · rfl
    · rw [List.getElem?_append_left hj] at hc
      obtain ⟨hj', e⟩ := List.getElem?_eq_some_iff.1 hc
      rw [← e]; exact itoa_no n _ (List.getElem_mem hj')
  unfold Lib.cut
  rw [this, if_pos (by omega), Int.toNat_natCast]
  rw [List.take_left' rfl, List.drop_append, List.drop_eq_nil_of_le (by omega)]
  rw [show (Lib.itoa n).length + ([47, 50, 94] : List UInt8).length - (Lib.itoa n).length = 3 by simp]
  rfl
theorem fin_any (s : ByteArray) (n k : Int) : ∃ r, impl_ParseDyadic.fin s n k = some r ∧ ShapeP s r := by
  unfold impl_ParseDyadic.fin
  rw [isDyadic_eq]; simp only [bs2]
  by_cases g : good n k = true
  · rw [if_pos g, dyadicText_eq g]; simp only [bs2]
    by_cases c : (txt n k).toList = s.toList
    · rw [if_pos c]; exact ⟨_, rfl, .inr ⟨n, k, g, toList_inj c, rfl⟩⟩
    · rw [if_neg c]; exact ⟨_, rfl, .inl rfl⟩
  · rw [if_neg g]; exact ⟨_, rfl, .inl rfl⟩
theorem implParse_any {s : ByteArray} (hs : s.size ≤ 1000000) : ∃ r, impl_ParseDyadic.f s = some r ∧ ShapeP s r := by
  unfold impl_ParseDyadic.f
  rw [if_pos hs]
  rcases impl_ParseDyadic.n1 s with n | _ | _
  · rcases impl_ParseDyadic.n2 s with k | _ | _
    · exact fin_any s n k
    · exact ⟨_, rfl, .inl rfl⟩
    · exact ⟨_, rfl, .inl rfl⟩
  · exact ⟨_, rfl, .inl rfl⟩
  · exact ⟨_, rfl, .inl rfl⟩
theorem implParse_txt {n k : Int} (g : good n k = true) : impl_ParseDyadic.f (txt n k) = some (n, k, true) := by
  have hz := txt_short g
  have hb : (txt n k).data.toList = _ := txt_bl n k
  have hk := good_iff.1 g
  have hsm := good_small g
  have hkm : Small k := ⟨by omega, by omega⟩
  have hf : impl_ParseDyadic.fin (txt n k) n k = some (n, k, true) := by
    unfold impl_ParseDyadic.fin
    rw [isDyadic_eq, g]; simp only [bs2, if_true]
    rw [dyadicText_eq g]; simp only [bs2, if_true]
  have h1 : impl_ParseDyadic.n1 (txt n k) = .ok n := by
    unfold impl_ParseDyadic.n1 impl_ParseDyadic.cut
    rw [hb]
    by_cases c : k = 0
    · rw [if_pos c, cut_none]; exact atoi_itoa hsm
    · rw [if_neg c, cut_some]; exact atoi_itoa hsm
  have h2 : impl_ParseDyadic.n2 (txt n k) = .ok k := by
    unfold impl_ParseDyadic.n2 impl_ParseDyadic.cut
    rw [hb]
    by_cases c : k = 0
    · rw [if_pos c, cut_none]; simp [c]
    · rw [if_neg c, cut_some]; exact atoi_itoa hkm
  unfold impl_ParseDyadic.f
  rw [if_pos (by omega), h1, h2]
  exact hf
end Go.Proofs.YtlmpdahiekflcaaDoor.PD
