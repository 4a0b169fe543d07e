import Derived.Test.YtgaoniapddpaaaaQCornOfPDx1
import Derived.Test.YtgaoniapddpaaaaQCornOfMt
/- The corners of a box: the reference's rows and the program's are one list; what the law writes over rows of rows, and reads again: plain lemmas on the printed functions. -/
namespace Go.Proofs.Ytgaoniapddpaaaa.PD
open Go.RowKit Go.Proofs.YtgaoniapddpaaaaW.PrintWords Go.Proofs.YtgaoniapddpaaaaW.PrintLast Go.Proofs.YtgaoniapddpaaaaW.PrintMore
theorem rdL_at {l : List (List S37)} {i : Nat} : rd_L4 l (i : Int) = l.getD i [] := by unfold rd_L4; rw [Int.toNat_natCast]
theorem getD_mem {α : Type} {l : List (List α)} {i : Nat} (h : i < l.length) : l.getD i [] ∈ l := by
  rw [List.getD_eq_getElem?_getD, List.getElem?_eq_getElem h]; exact List.getElem_mem h
theorem drop_getD {α : Type} {l : List (List α)} {i : Nat} (h : i < l.length) : l.drop i = l.getD i [] :: l.drop (i + 1) := by
  rw [List.getD_eq_getElem?_getD, List.getElem?_eq_getElem h, List.drop_eq_getElem_cons h]; rfl
/-- Every choice of one out of each pair, the first pair's choice the slowest. -/
def cn : List (S37 × S37) → List (List S37)
  | [] => [[]]
  | (a, b) :: t => (cn t).map (a :: ·) ++ (cn t).map (b :: ·)
def st (acc : List (List S37)) (p : S37 × S37) : List (List S37) := acc.flatMap (fun c => [c ++ [p.1], c ++ [p.2]])
theorem st_cn : ∀ (ps : List (S37 × S37)) (acc : List (List S37)), ps.foldl st acc = acc.flatMap (fun c => (cn ps).map (c ++ ·))
  | [], acc => by simp [cn]
  | (a, b) :: t, acc => by
    rw [List.foldl_cons, st_cn t]
    unfold st
    rw [List.flatMap_assoc]
    congr 1
    funext c
    simp [cn, Function.comp_def]
theorem st_len (p : S37 × S37) : ∀ l : List (List S37), (st l p).length = 2 * l.length
  | [] => rfl
  | c :: l => by
    have h := st_len p l
    unfold st at h ⊢
    rw [List.flatMap_cons, List.length_append, h]; simp; omega
theorem st_rows {p : S37 × S37} {l : List (List S37)} {n : Nat} (h : ∀ r ∈ l, r.length ≤ n) : ∀ r ∈ st l p, r.length ≤ n + 1 := by
  intro r hr
  unfold st at hr
  obtain ⟨c, hc, hr⟩ := List.mem_flatMap.1 hr
  have := h c hc
  simp only [List.mem_cons, List.not_mem_nil, or_false] at hr
  rcases hr with rfl | rfl <;> · rw [List.length_append]; simp; omega
theorem cn_len : ∀ ps : List (S37 × S37), (cn ps).length = 2 ^ ps.length
  | [] => rfl
  | (a, b) :: t => by
    have h := cn_len t
    simp only [cn, List.length_append, List.length_map, List.length_cons, h, Nat.pow_succ]; omega
theorem cn_rows : ∀ (ps : List (S37 × S37)), ∀ r ∈ cn ps, r.length = ps.length
  | [], r, hr => by
    simp only [cn, List.mem_cons, List.not_mem_nil, or_false] at hr
    rw [hr]; rfl
  | (a, b) :: t, r, hr => by
    simp only [cn, List.mem_append, List.mem_map] at hr
    rcases hr with ⟨x, hx, rfl⟩ | ⟨x, hx, rfl⟩ <;> simp [cn_rows t x hx]
def lo (k : Int) (L : List Int) (i : Nat) : S37 := ⟨(mk (L.getD i 0) k.toNat).1, (mk (L.getD i 0) k.toNat).2.1⟩
def sd (k : Int) (L H : List Int) : Nat → Nat → List (S37 × S37)
  | 0, _ => []
  | d + 1, i => (lo k L i, lo k H i) :: sd k L H d (i + 1)
theorem sd_len (k : Int) (L H : List Int) : ∀ d i : Nat, (sd k L H d i).length = d
  | 0, _ => rfl
  | d + 1, i => by rw [sd, List.length_cons, sd_len k L H d (i + 1)]
theorem pow_le3 {d : Nat} (h : d ≤ 3) : 2 ^ d ≤ 8 := by
  match d, h with
  | 0, _ => decide
  | 1, _ => decide
  | 2, _ => decide
  | 3, _ => decide
  | d + 4, h => omega
theorem corners_l1 {k v a n i p1 p2 : Int} {L H y : List Int} {K0 : Nat} (hv : ∀ K, K0 ≤ K → spec_bxNumber.f K v k = some (p1, p2)) (R : List (List S37)) (hR : R.length ≤ 8) (hr : ∀ r ∈ R, r.length ≤ 3) :
    ∀ (e j : Nat) (acc : List (List S37)), j + e = R.length → acc.length + e ≤ 1000 → ∀ K, K0 ≤ K → spec_bxCorners.l1 (K + e + 1) a acc v y n i R (R.length : Int) (j : Int) k L H = spec_bxCorners.l0 K a (acc ++ (R.drop j).map ((⟨p1, p2⟩ : S37) :: ·)) y n (wrap64 (i + 1)) k L H := by
  intro e
  induction e with
  | zero =>
    intro j acc hj ha K hK
    rw [Nat.add_zero]
    simp only [spec_bxCorners.l1]
    rw [if_neg (by omega), List.drop_of_length_le (by omega), List.map_nil, List.append_nil]
  | succ e ih =>
    intro j acc hj ha K hK
    have hjl : j < R.length := by omega
    have h3 := hr _ (getD_mem hjl)
    rw [show K + (e + 1) + 1 = K + e + 1 + 1 by omega]
    have hvM := hv (K + e + 1) (by omega)
    have ihM := ih (j + 1)
    generalize hM : K + e + 1 = M at hvM
    simp only [spec_bxCorners.l1]
    rw [if_pos (by omega), if_pos (by omega), if_pos (by omega), hvM]; simp only [bs']
    rw [← hM, rdL_at, if_pos (by simp only [List.length_cons, List.length_nil]; omega), if_pos (by omega), w64 (x := (j : Int) + 1) (by omega) (by omega), show (j : Int) + 1 = ((j + 1 : Nat) : Int) by omega, ihM _ (by omega) (by simp only [List.length_append, List.length_cons, List.length_nil]; omega) K hK, drop_getD hjl]
    simp
theorem corners_l0 {k a v0 v1 p1 p2 q1 q2 : Int} {L H : List Int} {K0 K1 N : Nat} (h0 : ∀ K, K0 ≤ K → spec_bxNumber.f K v0 k = some (p1, p2)) (h1 : ∀ K, K1 ≤ K → spec_bxNumber.f K v1 k = some (q1, q2)) (R : List (List S37)) (hR : R.length ≤ 8) (hr : ∀ r ∈ R, r.length ≤ 3)
    (hf : ∀ K, N ≤ K → spec_bxCorners.f K k L H (wrap64 (a + 1)) = some R) (K : Nat) (hK : K0 + K1 + N ≤ K) : spec_bxCorners.l0 (K + 1 + R.length + 1 + 1 + R.length + 1 + 1) a [] [v0, v1] (([v0, v1] : List Int).length : Int) 0 k L H = some (R.map ((⟨p1, p2⟩ : S37) :: ·) ++ R.map ((⟨q1, q2⟩ : S37) :: ·)) := by
  have e2 : (([v0, v1] : List Int).length : Int) = 2 := rfl
  rw [e2]
  simp only [spec_bxCorners.l0]
  rw [if_pos (by decide), if_pos (by decide), if_pos (by rw [e2]; decide), hf _ (by omega)]; simp only [bs']
  rw [show rd [v0, v1] 0 = v0 from rfl]
  refine (corners_l1 h0 R hR hr R.length 0 [] (by omega) (by simp; omega) (K + 1 + R.length + 1 + 1) (by omega)).trans ?_
  rw [w64 (x := (0 : Int) + 1) (by omega) (by omega), show (0 : Int) + 1 = 1 from rfl]
  simp only [spec_bxCorners.l0]
  rw [if_pos (by decide), if_pos (by decide), if_pos (by rw [e2]; decide), hf _ (by omega)]; simp only [bs']
  rw [show rd [v0, v1] 1 = v1 from rfl]
  refine (corners_l1 h1 R hR hr R.length 0 _ (by omega) (by simp; omega) (K + 1) (by omega)).trans ?_
  rw [w64 (x := (1 : Int) + 1) (by omega) (by omega), show (1 : Int) + 1 = 2 from rfl]
  simp only [spec_bxCorners.l0]
  rw [if_neg (by decide)]
  simp
theorem corners_ev {k : Int} {L H : List Int} (G : BoxOk k L H) : ∀ d i : Nat, i + d = L.length → Ev (fun K => spec_bxCorners.f K k L H (i : Int)) (cn (sd k L H d i)) := by
  have l3 := G.l3
  have hh := G.hl
  have k0 := G.k0
  have k8 := G.k8
  intro d
  induction d with
  | zero =>
    intro i hi
    refine ⟨1, fun K hK => ?_⟩
    obtain ⟨K, rfl⟩ : ∃ j, K = j + 1 := ⟨K - 1, by omega⟩
    simp only [spec_bxCorners.f]
    rw [if_pos (by omega)]; rfl
  | succ d ih =>
    intro i hi
    obtain ⟨N, e⟩ := ih (i + 1) (by omega)
    dsimp only at e
    have hs := okS_small k0 k8 (G.side i (by omega))
    obtain ⟨K6, e6⟩ := bxNumber_ev (n := L.getD i 0) (K := k) (small_of (by omega)) k0 (by omega)
    obtain ⟨K7, e7⟩ := bxNumber_ev (n := H.getD i 0) (K := k) (small_of (by omega)) k0 (by omega)
    dsimp only at e6 e7
    have hR : (cn (sd k L H d (i + 1))).length ≤ 8 := by rw [cn_len, sd_len]; exact pow_le3 (by omega)
    have hr : ∀ r ∈ cn (sd k L H d (i + 1)), r.length ≤ 3 := fun r h => by rw [cn_rows _ r h, sd_len]; omega
    refine ⟨N + K6 + K7 + 30, fun K hK => ?_⟩
    generalize hm : cn (sd k L H d (i + 1)) = R at hR hr e
    obtain ⟨K, rfl⟩ : ∃ j, K = j + 1 + R.length + 1 + 1 + R.length + 1 + 1 + 1 := ⟨K - (2 * R.length + 6), by omega⟩
    simp only [spec_bxCorners.f]
    rw [if_neg (by omega), if_pos (by omega), if_pos (by omega), if_pos (by omega)]; simp only [bs']
    rw [rd_at, rd_at]
    refine (corners_l0 e6 e7 R hR hr (fun K hK => by rw [w64 (by omega) (by omega), show (i : Int) + 1 = ((i + 1 : Nat) : Int) by omega]; exact e K hK) K (by omega)).trans ?_
    rw [sd, cn, hm]; rfl
theorem dy_clone {l : List S37} (h : l.length ≤ 3) : impl_Dyadic.f l = some l := by
  unfold impl_Dyadic.f
  simp only [bs']
  rw [if_pos (by simp; omega), List.nil_append]
theorem implc_l1 {n i k p1 p2 q1 q2 : Int} {L H : List Int} (X : List (List S37)) (hX : X.length ≤ 8) (hr : ∀ r ∈ X, r.length ≤ 3) : ∀ (e j : Nat) (acc : List (List S37)), j + e = X.length → acc.length + 2 * e ≤ 1000 → ∀ K,
    impl_CornersOf.l1 (K + e + 1) acc n i X (X.length : Int) (j : Int) k L H p1 p2 q1 q2 = impl_CornersOf.l0 K (acc ++ st (X.drop j) (⟨p1, p2⟩, ⟨q1, q2⟩)) n (wrap64 (i + 1)) k L H := by
  intro e
  induction e with
  | zero =>
    intro j acc hj ha K
    rw [Nat.add_zero]
    simp only [impl_CornersOf.l1]
    rw [if_neg (by omega), List.drop_of_length_le (by omega)]
    unfold st
    rw [List.flatMap_nil, List.append_nil]
  | succ e ih =>
    intro j acc hj ha K
    have hjl : j < X.length := by omega
    have h3 := hr _ (getD_mem hjl)
    rw [show K + (e + 1) + 1 = K + e + 1 + 1 by omega]
    have ihM := ih (j + 1)
    generalize hM : K + e + 1 = M
    simp only [impl_CornersOf.l1]
    rw [if_pos (by omega), if_pos (by omega), if_pos (by omega), rdL_at, dy_clone h3]; simp only [bs']
    rw [← hM, if_pos (by simp only [List.length_cons, List.length_nil]; omega), if_pos (by simp only [List.length_cons, List.length_nil]; omega), if_pos (by simp only [List.length_cons, List.length_nil]; omega), w64 (x := (j : Int) + 1) (by omega) (by omega), show (j : Int) + 1 = ((j + 1 : Nat) : Int) by omega, ihM _ (by omega) (by simp only [List.length_append, List.length_cons, List.length_nil]; omega) K, drop_getD hjl]
    unfold st
    rw [List.flatMap_cons, List.append_assoc]
theorem implc_l0 {k : Int} {L H : List Int} (G : BoxOk k L H) : ∀ (d i : Nat) (X : List (List S37)), i + d = L.length → X.length * 2 ^ d ≤ 8 → (∀ r ∈ X, r.length ≤ i) → Ev (fun K => impl_CornersOf.l0 K X (L.length : Int) (i : Int) k L H) ((sd k L H d i).foldl st X, true) := by
  have l3 := G.l3
  have hh := G.hl
  have k0 := G.k0
  have k8 := G.k8
  intro d
  induction d with
  | zero =>
    intro i X hi hX hr
    refine ⟨1, fun K hK => ?_⟩
    obtain ⟨K, rfl⟩ : ∃ j, K = j + 1 := ⟨K - 1, by omega⟩
    simp only [impl_CornersOf.l0]
    rw [if_neg (by omega)]; rfl
  | succ d ih =>
    intro i X hi hX hr
    have hX2 : (2 * X.length) * 2 ^ d ≤ 8 := by
      rw [Nat.pow_succ] at hX
      have : 2 * X.length * 2 ^ d = X.length * (2 ^ d * 2) := by rw [Nat.mul_comm 2, Nat.mul_assoc, Nat.mul_comm 2]
      omega
    have hX8 : X.length ≤ 8 := Nat.le_trans (Nat.le_mul_of_pos_right _ (Nat.two_pow_pos _)) hX
    obtain ⟨N, e⟩ := ih (i + 1) (st X (lo k L i, lo k H i)) (by omega) (by rw [st_len]; exact hX2) (st_rows hr)
    dsimp only at e
    have hs := okS_small k0 k8 (G.side i (by omega))
    obtain ⟨K4, e4⟩ := dyadic_ev (n := L.getD i 0) (K := k) (by omega) k0 (by omega) L H
    obtain ⟨K5, e5⟩ := dyadic_ev (n := H.getD i 0) (K := k) (by omega) k0 (by omega) L H
    dsimp only at e4 e5
    refine ⟨N + K4 + K5 + X.length + 10, fun K hK => ?_⟩
    obtain ⟨K, rfl⟩ : ∃ j, K = j + X.length + 1 + 1 := ⟨K - (X.length + 2), by omega⟩
    dsimp only
    simp only [impl_CornersOf.l0]
    unfold impl_Box_side.f
    rw [if_pos (by omega), if_pos (by omega), if_pos (by omega), if_pos (by omega), rd_at, rd_at, e4 _ (by omega)]; simp only [bs']
    rw [e5 _ (by omega)]; simp only [bs']
    refine (implc_l1 X hX8 (fun r h => by have := hr r h; omega) X.length 0 [] (by omega) (by simp; omega) K).trans ?_
    rw [w64 (x := (i : Int) + 1) (by omega) (by omega), show (i : Int) + 1 = ((i + 1 : Nat) : Int) by omega, List.drop_zero, List.nil_append]
    exact e K (by omega)
theorem eqDSS_ev {l : List (List S37)} (hl : l.length ≤ 1000) (hr : ∀ r ∈ l, r.length ≤ 1000) : Ev (fun K => laws_eqDyadicSS.f K l l) true := by
  have key : ∀ (d i : Nat), i + d = l.length → Ev (fun K => laws_eqDyadicSS.l0 K l l (i : Int)) true := by
    intro d
    induction d with
    | zero =>
      intro i hi
      refine ⟨1, fun K hK => ?_⟩
      obtain ⟨K, rfl⟩ : ∃ j, K = j + 1 := ⟨K - 1, by omega⟩
      simp only [laws_eqDyadicSS.l0]
      rw [if_neg (by omega)]
    | succ d ih =>
      intro i hi
      obtain ⟨N, e⟩ := ih (i + 1) (by omega)
      obtain ⟨N1, e1⟩ := eqDS_ev (l := l.getD i []) (by have := hr _ (getD_mem (l := l) (i := i) (by omega)); omega)
      dsimp only at e e1
      refine ⟨N + N1 + 1, fun K hK => ?_⟩
      obtain ⟨K, rfl⟩ : ∃ j, K = j + 1 := ⟨K - 1, by omega⟩
      simp only [laws_eqDyadicSS.l0]
      rw [if_pos (by omega), if_pos (by omega), if_pos (by omega), rdL_at, e1 K (by omega)]; simp only [bs', if_true]
      rw [w64 (by omega) (by omega), show (i : Int) + 1 = ((i + 1 : Nat) : Int) by omega]
      exact e K (by omega)
  obtain ⟨N, e⟩ := key l.length 0 (by omega)
  refine ⟨N, fun K hK => ?_⟩
  dsimp only; unfold laws_eqDyadicSS.f
  rw [if_pos rfl]
  exact e K hK
def mkV (v : Int) (n : Nat) : List S37 := (List.range n).map fun (i : Nat) => ⟨v + 2 * (i : Int), v + 2 * (i : Int) + 1⟩
theorem mkV_len (v : Int) (n : Nat) : (mkV v n).length = n := by unfold mkV; rw [List.length_map, List.length_range]
theorem mkV_get {v : Int} {n i : Nat} (h : i < n) : (mkV v n)[i]? = some ⟨v + 2 * (i : Int), v + 2 * (i : Int) + 1⟩ := by
  unfold mkV
  rw [List.getElem?_map, List.getElem?_range h]; rfl
theorem markDS_at {l : List S37} {v : Int} (hl : l.length ≤ 1000) (h0 : 0 ≤ v) (hv : v ≤ 1000000) : Ev (fun K => laws_markDyadicS.f K l v) (v + 2 * (l.length : Int), mkV v l.length) := by
  have key : ∀ (d i K : Nat) (x : List S37), i + d = l.length → x.length = l.length → x.take i = (mkV v l.length).take i → d < K → laws_markDyadicS.l0 K x (v + 2 * (i : Int)) (i : Int) = some (v + 2 * (l.length : Int), mkV v l.length) := by
    intro d
    induction d with
    | zero =>
      intro i K x hi hx ht hK
      obtain ⟨K, rfl⟩ : ∃ j, K = j + 1 := ⟨K - 1, by omega⟩
      simp only [laws_markDyadicS.l0]
      have hil : i = l.length := by omega
      subst hil
      rw [if_neg (by omega)]
      have h1 : x.take l.length = x := List.take_of_length_le (by omega)
      have h2 : (mkV v l.length).take l.length = mkV v l.length := List.take_of_length_le (by rw [mkV_len]; omega)
      rw [h1, h2] at ht
      rw [ht]
    | succ d ih =>
      intro i K x hi hx ht hK
      obtain ⟨K, rfl⟩ : ∃ j, K = j + 1 := ⟨K - 1, by omega⟩
      have hil : i < l.length := by omega
      simp only [laws_markDyadicS.l0]
      rw [if_pos (by omega), if_pos (by omega)]; simp only [bs', Int.toNat_natCast]
      rw [rdD_set (by omega)]
      simp only [List.set_set]
      rw [w64 (x := v + 2 * (i : Int) + 1) (by omega) (by omega), w64 (x := v + 2 * (i : Int) + 1 + 1) (by omega) (by omega), w64 (x := (i : Int) + 1) (by omega) (by omega)]
      rw [show (v + 2 * (i : Int) + 1 + 1) = v + 2 * ((i + 1 : Nat) : Int) by omega, show (i : Int) + 1 = ((i + 1 : Nat) : Int) by omega]
      refine ih (i + 1) K _ (by omega) (by rw [List.length_set]; omega) ?_ (by omega)
      rw [List.take_add_one, List.take_add_one, List.take_set_of_le (Nat.le_refl _), ht, mkV_get hil, List.getElem?_set_self (by omega)]
  refine ⟨l.length + 1, fun K hK => ?_⟩
  dsimp only; unfold laws_markDyadicS.f
  have := key l.length 0 K l (by omega) rfl (by simp) (by omega)
  rw [show v + 2 * ((0 : Nat) : Int) = v by omega] at this
  exact this
theorem heldDS_at {n : Nat} {v : Int} (hn : n ≤ 1000) (h0 : 0 ≤ v) (hv : v ≤ 1000000) : Ev (fun K => laws_heldDyadicS.f K (mkV v n) v) (v + 2 * (n : Int)) := by
  have hl := mkV_len v n
  have key : ∀ (d i K : Nat), i + d = n → d < K → laws_heldDyadicS.l0 K (mkV v n) (v + 2 * (i : Int)) (i : Int) = some (v + 2 * (n : Int)) := by
    intro d
    induction d with
    | zero =>
      intro i K hi hK
      obtain ⟨K, rfl⟩ : ∃ j, K = j + 1 := ⟨K - 1, by omega⟩
      simp only [laws_heldDyadicS.l0]
      have hil : i = n := by omega
      subst hil
      rw [if_neg (by omega)]
    | succ d ih =>
      intro i K hi hK
      obtain ⟨K, rfl⟩ : ∃ j, K = j + 1 := ⟨K - 1, by omega⟩
      have hil : i < n := by omega
      simp only [laws_heldDyadicS.l0]
      rw [if_pos (by omega), if_pos (by omega), rdD_at, List.getD_eq_getElem?_getD, mkV_get hil]; simp only [Option.getD_some, if_true]
      rw [w64 (x := v + 2 * (i : Int) + 1) (by omega) (by omega), w64 (x := v + 2 * (i : Int) + 1 + 1) (by omega) (by omega), w64 (x := (i : Int) + 1) (by omega) (by omega)]
      rw [if_pos rfl]
      rw [show (v + 2 * (i : Int) + 1 + 1) = v + 2 * ((i + 1 : Nat) : Int) by omega, show (i : Int) + 1 = ((i + 1 : Nat) : Int) by omega]
      exact ih (i + 1) K (by omega) (by omega)
  refine ⟨n + 1, fun K hK => ?_⟩
  dsimp only; unfold laws_heldDyadicS.f
  have := key n 0 K (by omega) (by omega)
  rw [show v + 2 * ((0 : Nat) : Int) = v by omega] at this
  exact this
theorem markDSS_l0 : ∀ (d i : Nat) (v : Int) (x : List (List S37)), i + d = x.length → (∀ r ∈ x, r.length ≤ 100) → 0 ≤ v → v + 200 * (d : Int) ≤ 1000000 → d ≤ 1000 → x.length ≤ 1000 →
    ∃ (t : Int) (g : List (List S37)), 0 ≤ t ∧ g.take i = x.take i ∧ g.length = x.length ∧ Ev (fun K => laws_markDyadicSS.l0 K x v (i : Int)) (t, g) ∧ Ev (fun K => laws_heldDyadicSS.l0 K g v (i : Int)) t := by
  intro d
  induction d with
  | zero =>
    intro i v x hi hr h0 hv hd hx
    refine ⟨v, x, h0, rfl, rfl, ⟨1, fun K hK => ?_⟩, ⟨1, fun K hK => ?_⟩⟩
    · obtain ⟨K, rfl⟩ : ∃ j, K = j + 1 := ⟨K - 1, by omega⟩
      simp only [laws_markDyadicSS.l0]
      rw [if_neg (by omega)]
    · obtain ⟨K, rfl⟩ : ∃ j, K = j + 1 := ⟨K - 1, by omega⟩
      simp only [laws_heldDyadicSS.l0]
      rw [if_neg (by omega)]
  | succ d ih =>
    intro i v x hi hr h0 hv hd hx
    have hil : i < x.length := by omega
    have h3 := hr _ (getD_mem hil)
    obtain ⟨N1, e1⟩ := markDS_at (l := x.getD i []) (v := v) (by omega) h0 (by omega)
    obtain ⟨N2, e2⟩ := heldDS_at (n := (x.getD i []).length) (v := v) (by omega) h0 (by omega)
    dsimp only at e1 e2
    have hr' : ∀ r ∈ x.set i (mkV v (x.getD i []).length), r.length ≤ 100 := by
      intro r h
      rcases List.mem_or_eq_of_mem_set h with h | h
      · exact hr r h
      · rw [h, mkV_len]; exact h3
    obtain ⟨t, g, ht, hg, hgl, ⟨N3, e3⟩, ⟨N4, e4⟩⟩ := ih (i + 1) (v + 2 * ((x.getD i []).length : Int)) (x.set i (mkV v (x.getD i []).length)) (by rw [List.length_set]; omega) hr' (by omega) (by omega) (by omega) (by rw [List.length_set]; exact hx)
    dsimp only at e3 e4
    rw [List.length_set] at hgl
    have hgi : g.getD i [] = mkV v (x.getD i []).length := by
      have : g[i]? = (g.take (i + 1))[i]? := by rw [List.getElem?_take_of_lt (by omega)]
      rw [List.getD_eq_getElem?_getD, this, hg, List.getElem?_take_of_lt (by omega), List.getElem?_set_self hil]; rfl
    refine ⟨t, g, ht, ?_, hgl, ⟨N1 + N3 + 1, fun K hK => ?_⟩, ⟨N2 + N4 + 1, fun K hK => ?_⟩⟩
    · have h1 : g.take i = (g.take (i + 1)).take i := by rw [List.take_take, Nat.min_eq_left (by omega)]
      rw [h1, hg, List.take_take, Nat.min_eq_left (by omega), List.take_set_of_le (Nat.le_refl _)]
    · obtain ⟨K, rfl⟩ : ∃ j, K = j + 1 := ⟨K - 1, by omega⟩
      simp only [laws_markDyadicSS.l0]
      have : laws_markDyadicSS.rd x (i : Int) = x.getD i [] := by unfold laws_markDyadicSS.rd; rw [Int.toNat_natCast]
      rw [if_pos (by omega), if_pos (by omega), this, e1 K (by omega)]; simp only [bs', Int.toNat_natCast]
      rw [w64 (by omega) (by omega), show (i : Int) + 1 = ((i + 1 : Nat) : Int) by omega]
      exact e3 K (by omega)
    · obtain ⟨K, rfl⟩ : ∃ j, K = j + 1 := ⟨K - 1, by omega⟩
      simp only [laws_heldDyadicSS.l0]
      rw [if_pos (by omega), if_pos (by omega), rdL_at, hgi, e2 K (by omega)]; simp only [bs']
      rw [if_neg (by omega), w64 (by omega) (by omega), show (i : Int) + 1 = ((i + 1 : Nat) : Int) by omega]
      exact e4 K (by omega)
theorem markDSS_ev {x : List (List S37)} (hx : x.length ≤ 8) (hr : ∀ r ∈ x, r.length ≤ 3) : ∃ (t : Int) (g : List (List S37)), 0 ≤ t ∧ Ev (fun K => laws_markDyadicSS.f K x 101) (t, g) ∧ Ev (fun K => laws_heldDyadicSS.f K g 101) t := by
  obtain ⟨t, g, h0, _, _, h1, h2⟩ := markDSS_l0 x.length 0 101 x (by omega) (fun r h => by have := hr r h; omega) (by omega) (by omega) (by omega) (by omega)
  exact ⟨t, g, h0, h1, h2⟩
end Go.Proofs.Ytgaoniapddpaaaa.PD
