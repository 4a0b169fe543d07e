import Derived.Test.YtgaoniapddpaaaaQHalvOfPDx1
import Derived.Test.YtgaoniapddpaaaaQHalvOfMv
/- The halves of a box: the reference's and the program's are one list; what the law writes over a row of boxes, and reads again: plain lemmas on the printed functions. -/
namespace Go.Proofs.Ytgaoniapddpaaaa.PD
open Go.RowKit Go.Proofs.YtgaoniapddpaaaaW.PrintWords Go.Proofs.YtgaoniapddpaaaaW.PrintLast Go.Proofs.YtgaoniapddpaaaaW.PrintMore
theorem rdB_at {l : List S27} {i : Nat} : rd_T27 l (i : Int) = l.getD i z27 := by unfold rd_T27; rw [Int.toNat_natCast]
theorem getB_mem {l : List S27} {i : Nat} (h : i < l.length) : l.getD i z27 ∈ l := by
  rw [List.getD_eq_getElem?_getD, List.getElem?_eq_getElem h]; exact List.getElem_mem h
theorem bxFine_ev {k : Int} {L H : List Int} (l3 : L.length ≤ 3) (hh : H.length = L.length) (b1 : ∀ j, j < L.length → -2048 ≤ L.getD j 0 ∧ L.getD j 0 ≤ 2048) (b2 : ∀ j, j < H.length → -2048 ≤ H.getD j 0 ∧ H.getD j 0 ≤ 2048) : Ev (fun K => spec_bxFine.f K k L H) (L.map (tms (2 ^ 1)), H.map (tms (2 ^ 1))) := by
  have key : ∀ (e i K : Nat), i + e = L.length → e < K → spec_bxFine.l0 K ((L.take i).map (tms (2 ^ 1))) ((H.take i).map (tms (2 ^ 1))) L (L.length : Int) (i : Int) k L H = some (L.map (tms (2 ^ 1)), H.map (tms (2 ^ 1))) := by
    intro e
    induction e with
    | zero =>
      intro i K hi hK
      obtain ⟨K, rfl⟩ : ∃ j, K = j + 1 := ⟨K - 1, by omega⟩
      simp only [spec_bxFine.l0]
      rw [if_neg (by omega), List.take_of_length_le (by omega), List.take_of_length_le (by omega)]
    | succ e ih =>
      intro i K hi hK
      obtain ⟨K, rfl⟩ : ∃ j, K = j + 1 := ⟨K - 1, by omega⟩
      have hil : i < L.length := by omega
      have hih : i < H.length := by omega
      have hx := b1 i hil
      have hy := b2 i hih
      have ih' := ih (i + 1) K (by omega) (by omega)
      rw [List.take_succ_eq_append_getElem hil, List.take_succ_eq_append_getElem hih, List.map_append, List.map_singleton, List.map_append, List.map_singleton] at ih'
      have he : L[i] = L.getD i 0 := by rw [List.getD_eq_getElem?_getD, List.getElem?_eq_getElem hil]; rfl
      have hf : H[i] = H.getD i 0 := by rw [List.getD_eq_getElem?_getD, List.getElem?_eq_getElem hih]; rfl
      rw [he, hf] at ih'
      have s1 : wrap64 (2 * L.getD i 0) = tms (2 ^ 1) (L.getD i 0) := by
        unfold tms; rw [w64 (by omega) (by omega), show (2 : Int) ^ 1 = 2 from rfl]; omega
      have s2 : wrap64 (2 * H.getD i 0) = tms (2 ^ 1) (H.getD i 0) := by
        unfold tms; rw [w64 (by omega) (by omega), show (2 : Int) ^ 1 = 2 from rfl]; omega
      simp only [spec_bxFine.l0]
      rw [if_pos (by omega), if_pos (by omega), if_pos (by omega), if_pos (by rw [List.length_map, List.length_take]; omega), if_pos (by omega), if_pos (by rw [List.length_map, List.length_take]; omega), rd_at, rd_at, s1, s2, w64 (by omega) (by omega), show (i : Int) + 1 = ((i + 1 : Nat) : Int) by omega]
      exact ih'
  refine ⟨L.length + 1, fun K hK => ?_⟩
  dsimp only; unfold spec_bxFine.f
  exact key L.length 0 K (by omega) (by omega)
theorem int_clone {l : List Int} (h : l.length ≤ 1000) : slices_Clone_int_int.f l = some l := by
  unfold slices_Clone_int_int.f
  simp only [bs']
  rw [if_pos (by simp only [List.length_nil]; omega), List.nil_append]
theorem Rng.set {l : List Int} (h : Rng l) (i : Nat) {z : Int} (hz : -9223372036854775808 ≤ z ∧ z ≤ 9223372036854775807) : Rng (l.set i z) := by
  intro x hx
  rcases List.mem_or_eq_of_mem_set hx with hx | hx
  · exact h x hx
  · rw [hx]; exact hz
/-- Both halves at side i, told once. -/
def hlv (p : Nat) (L H : List Int) (i : Nat) : List S27 × Bool :=
  let A := boxR (p + 1) (L.map (tms (2 ^ 1))) ((H.map (tms (2 ^ 1))).set i (L.getD i 0 + H.getD i 0))
  let B := boxR (p + 1) ((L.map (tms (2 ^ 1))).set i (L.getD i 0 + H.getD i 0)) (H.map (tms (2 ^ 1)))
  if A.2.2.2 = true then (if B.2.2.2 = true then ([⟨A.1, A.2.1, A.2.2.1⟩, ⟨B.1, B.2.1, B.2.2.1⟩], true) else ([], false)) else ([], false)
theorem hlv_small (p : Nat) (L H : List Int) (i : Nat) : (hlv p L H i).1.length ≤ 2 ∧ ∀ x ∈ (hlv p L H i).1, x.f1.length ≤ 3 ∧ x.f2.length ≤ 3 := by
  unfold hlv
  dsimp only
  split
  · split
    · refine ⟨by simp, fun x hx => ?_⟩
      simp only [List.mem_cons, List.not_mem_nil, or_false] at hx
      rcases hx with rfl | rfl
      · exact boxR_len _ _ _
      · exact boxR_len _ _ _
    · exact ⟨by simp, by simp⟩
  · exact ⟨by simp, by simp⟩
theorem halves_ev {k : Int} {L H : List Int} (G : BoxOk k L H) {i : Nat} (hi : i < L.length) : Ev (fun K => spec_bxHalves.f K k L H (i : Int)) (hlv k.toNat L H i) ∧ Ev (fun K => impl_Box_halves.f K k L H (i : Int)) ((hlv k.toNat L H i).1, (hlv k.toNat L H i).2, k) := by
  have l3 := G.l3
  have hh := G.hl
  have k0 := G.k0
  have k8 := G.k8
  have b1 : ∀ j, j < L.length → -2048 ≤ L.getD j 0 ∧ L.getD j 0 ≤ 2048 := fun j hj => by have := okS_small k0 k8 (G.side j hj); omega
  have b2 : ∀ j, j < H.length → -2048 ≤ H.getD j 0 ∧ H.getD j 0 ≤ 2048 := fun j hj => by have := okS_small k0 k8 (G.side j (by omega)); omega
  have x1 := b1 i hi
  have x2 := b2 i (by omega)
  obtain ⟨p, rfl⟩ := Int.eq_ofNat_of_zero_le k0
  rw [Int.toNat_natCast]
  have r1 := tms_rng b1 (show 1 ≤ 8 by omega)
  have r2 := tms_rng b2 (show 1 ≤ 8 by omega)
  have n1 : (L.map (tms (2 ^ 1))).length = L.length := List.length_map _
  have n2 : (H.map (tms (2 ^ 1))).length = H.length := List.length_map _
  have hm : wrap64 (L.getD i 0 + H.getD i 0) = L.getD i 0 + H.getD i 0 := w64 (by omega) (by omega)
  have hk : wrap64 ((p : Int) + 1) = ((p + 1 : Nat) : Int) := by rw [w64 (by omega) (by omega)]; omega
  have hmz : -9223372036854775808 ≤ L.getD i 0 + H.getD i 0 ∧ L.getD i 0 + H.getD i 0 ≤ 9223372036854775807 := by omega
  obtain ⟨K1, e1⟩ := bxFine_ev (k := (p : Int)) l3 hh b1 b2
  obtain ⟨K2, e2⟩ := bxMake_ev (k := p + 1) (L := L.map (tms (2 ^ 1))) (H := (H.map (tms (2 ^ 1))).set i (L.getD i 0 + H.getD i 0)) (by omega) (by omega) (by rw [List.length_set]; omega) r1 (r2.set i hmz)
  obtain ⟨K3, e3⟩ := bxMake_ev (k := p + 1) (L := (L.map (tms (2 ^ 1))).set i (L.getD i 0 + H.getD i 0)) (H := H.map (tms (2 ^ 1))) (by omega) (by rw [List.length_set]; omega) (by rw [List.length_set]; omega) (r1.set i hmz) r2
  obtain ⟨K4, e4⟩ := boxOf_ev (k := p + 1) (L := L.map (tms (2 ^ 1))) (H := (H.map (tms (2 ^ 1))).set i (L.getD i 0 + H.getD i 0)) (by omega) (by omega) (by rw [List.length_set]; omega) r1 (r2.set i hmz)
  obtain ⟨K5, e5⟩ := boxOf_ev (k := p + 1) (L := (L.map (tms (2 ^ 1))).set i (L.getD i 0 + H.getD i 0)) (H := H.map (tms (2 ^ 1))) (by omega) (by rw [List.length_set]; omega) (by omega) (r1.set i hmz) r2
  obtain ⟨K6, e6⟩ := scaled_ev l3 b1 (d := 1) (by omega)
  obtain ⟨K7, e7⟩ := scaled_ev (by omega) b2 (d := 1) (by omega)
  dsimp only at e1 e2 e3 e4 e5 e6 e7
  have hfin : ∀ A B : Int × List Int × List Int × Bool, (if A.2.2.2 = true then (if B.2.2.2 = true then some (([(⟨A.1, A.2.1, A.2.2.1⟩ : S27), (⟨B.1, B.2.1, B.2.2.1⟩ : S27)] : List S27), true) else some (([] : List S27), false)) else some (([] : List S27), false)) = some (if A.2.2.2 = true then (if B.2.2.2 = true then ([⟨A.1, A.2.1, A.2.2.1⟩, ⟨B.1, B.2.1, B.2.2.1⟩], true) else ([], false)) else ([], false)) := by
    intro A B
    split
    · split <;> rfl
    · rfl
  refine ⟨⟨K1 + K2 + K3, fun K hK => ?_⟩, ⟨K4 + K5 + K6 + K7, fun K hK => ?_⟩⟩
  · dsimp only; unfold spec_bxHalves.f
    rw [e1 _ (by omega)]; simp only [bs']
    rw [if_pos (by omega), if_pos (by omega), if_pos (by omega), l1Own_eq (by omega)]; simp only [bs']
    rw [l1Own_eq (by omega)]; simp only [bs']
    rw [if_pos (by omega), if_pos (by omega), rd_at, rd_at, hm, hk, Int.toNat_natCast, e2 _ (by omega)]; simp only [bs']
    rw [e3 _ (by omega)]; simp only [bs']
    exact hfin _ _
  · dsimp only; unfold impl_Box_halves.f impl_Box_halves.g
    rw [show (1 : Int) = ((1 : Nat) : Int) from rfl] at *
    rw [e6 _ (by omega)]; simp only [bs']
    rw [e7 _ (by omega)]; simp only [bs']
    rw [if_pos (by omega), if_pos (by omega), if_pos (by omega), int_clone (by omega)]; simp only [bs']
    rw [int_clone (by omega)]; simp only [bs']
    rw [if_pos (by omega), if_pos (by omega), rd_at, rd_at, hm, hk, Int.toNat_natCast, e4 _ (by omega)]; simp only [bs']
    rw [e5 _ (by omega)]; simp only [bs']
    rw [hfin]; simp only [bs']
    rfl
theorem eqBSS_ev {l : List S27} (hl : l.length ≤ 1000) (hr : ∀ r ∈ l, r.f1.length ≤ 1000 ∧ r.f2.length ≤ 1000) : Ev (fun K => laws_eqBoxS.f K l l) true := by
  have key : ∀ (d i : Nat), i + d = l.length → Ev (fun K => laws_eqBoxS.l0 K l l (i : Int)) true := by
    intro d
    induction d with
    | zero =>
      intro i hi
      refine ⟨1, fun K hK => ?_⟩
      obtain ⟨K, rfl⟩ : ∃ j, K = j + 1 := ⟨K - 1, by omega⟩
      simp only [laws_eqBoxS.l0]
      rw [if_neg (by omega)]
    | succ d ih =>
      intro i hi
      obtain ⟨N, e⟩ := ih (i + 1) (by omega)
      have h3 := hr _ (getB_mem (l := l) (i := i) (by omega))
      obtain ⟨N1, e1⟩ := eqBox_ev (l.getD i z27).f0 (L := (l.getD i z27).f1) (H := (l.getD i z27).f2) (by omega) (by omega)
      dsimp only at e e1
      refine ⟨N + N1 + 1, fun K hK => ?_⟩
      obtain ⟨K, rfl⟩ : ∃ j, K = j + 1 := ⟨K - 1, by omega⟩
      simp only [laws_eqBoxS.l0]
      rw [if_pos (by omega), if_pos (by omega), if_pos (by omega), rdB_at, e1 K (by omega)]; simp only [bs', if_true]
      rw [w64 (by omega) (by omega), show (i : Int) + 1 = ((i + 1 : Nat) : Int) by omega]
      exact e K (by omega)
  obtain ⟨N, e⟩ := key l.length 0 (by omega)
  refine ⟨N, fun K hK => ?_⟩
  dsimp only; unfold laws_eqBoxS.f
  rw [if_pos rfl]
  exact e K hK
theorem markBSS_l0 : ∀ (d i : Nat) (v : Int) (x : List S27), i + d = x.length → (∀ r ∈ x, r.f1.length ≤ 100 ∧ r.f2.length ≤ 100) → 0 ≤ v → v + 300 * (d : Int) ≤ 1000000 → d ≤ 1000 → x.length ≤ 1000 →
    ∃ (t : Int) (g : List S27), 0 ≤ t ∧ g.take i = x.take i ∧ g.length = x.length ∧ Ev (fun K => laws_markBoxS.l0 K x v (i : Int)) (t, g) ∧ Ev (fun K => laws_heldBoxS.l0 K g v (i : Int)) t := by
  intro d
  induction d with
  | zero =>
    intro i v x hi hr h0 hv hd hx
    refine ⟨v, x, h0, rfl, rfl, ⟨1, fun K hK => ?_⟩, ⟨1, fun K hK => ?_⟩⟩
    · obtain ⟨K, rfl⟩ : ∃ j, K = j + 1 := ⟨K - 1, by omega⟩
      simp only [laws_markBoxS.l0]
      rw [if_neg (by omega)]
    · obtain ⟨K, rfl⟩ : ∃ j, K = j + 1 := ⟨K - 1, by omega⟩
      simp only [laws_heldBoxS.l0]
      rw [if_neg (by omega)]
  | succ d ih =>
    intro i v x hi hr h0 hv hd hx
    have hil : i < x.length := by omega
    obtain ⟨h1, h2⟩ := hr _ (getB_mem hil)
    generalize hn1 : (x.getD i z27).f1.length = n1 at h1
    generalize hn2 : (x.getD i z27).f2.length = n2 at h2
    obtain ⟨N1, e1⟩ := markV_ev (l := (x.getD i z27).f1) (v := v + 1) (by omega) (by omega) (by omega)
    obtain ⟨N2, e2⟩ := markV_ev (l := (x.getD i z27).f2) (v := v + 1 + (n1 : Int)) (by omega) (by omega) (by omega)
    obtain ⟨N5, e5⟩ := heldV_ev (n := n1) (v := v + 1) (by omega) (by omega) (by omega)
    obtain ⟨N6, e6⟩ := heldV_ev (n := n2) (v := v + 1 + (n1 : Int)) (by omega) (by omega) (by omega)
    rw [hn1] at e1
    rw [hn2] at e2
    dsimp only at e1 e2 e5 e6
    have hr' : ∀ r ∈ x.set i (⟨v, mkV (v + 1) n1, mkV (v + 1 + (n1 : Int)) n2⟩ : S27), r.f1.length ≤ 100 ∧ r.f2.length ≤ 100 := by
      intro r h
      rcases List.mem_or_eq_of_mem_set h with h | h
      · exact hr r h
      · rw [h]; exact ⟨by rw [mkV_len]; exact h1, by rw [mkV_len]; exact h2⟩
    obtain ⟨t, g, ht, hg, hgl, ⟨N3, e3⟩, ⟨N4, e4⟩⟩ := ih (i + 1) (v + 1 + (n1 : Int) + (n2 : Int)) (x.set i (⟨v, mkV (v + 1) n1, mkV (v + 1 + (n1 : Int)) n2⟩ : S27)) (by rw [List.length_set]; omega) hr' (by omega) (by omega) (by omega) (by rw [List.length_set]; exact hx)
    dsimp only at e3 e4
    rw [List.length_set] at hgl
    have hgi : g.getD i z27 = (⟨v, mkV (v + 1) n1, mkV (v + 1 + (n1 : Int)) n2⟩ : S27) := by
      have : g[i]? = (g.take (i + 1))[i]? := by rw [List.getElem?_take_of_lt (by omega)]
      rw [List.getD_eq_getElem?_getD, this, hg, List.getElem?_take_of_lt (by omega), List.getElem?_set_self hil]; rfl
    refine ⟨t, g, ht, ?_, hgl, ⟨N1 + N2 + N3 + 1, fun K hK => ?_⟩, ⟨N5 + N6 + N4 + 1, fun K hK => ?_⟩⟩
    · have q1 : g.take i = (g.take (i + 1)).take i := by rw [List.take_take, Nat.min_eq_left (by omega)]
      rw [q1, hg, List.take_take, Nat.min_eq_left (by omega), List.take_set_of_le (Nat.le_refl _)]
    · obtain ⟨K, rfl⟩ : ∃ j, K = j + 1 := ⟨K - 1, by omega⟩
      simp only [laws_markBoxS.l0]
      rw [if_pos (by omega), if_pos (by omega), rdB_at, w64 (x := v + 1) (by omega) (by omega), e1 K (by omega)]; simp only [bs', Int.toNat_natCast]
      rw [e2 K (by omega)]; simp only [bs']
      rw [w64 (by omega) (by omega), show (i : Int) + 1 = ((i + 1 : Nat) : Int) by omega]
      exact e3 K (by omega)
    · obtain ⟨K, rfl⟩ : ∃ j, K = j + 1 := ⟨K - 1, by omega⟩
      simp only [laws_heldBoxS.l0]
      rw [if_pos (by omega), if_pos (by omega), rdB_at, hgi]
      rw [if_pos rfl, w64 (x := v + 1) (by omega) (by omega), e5 K (by omega)]; simp only [bs']
      rw [if_neg (by omega), e6 K (by omega)]; simp only [bs']
      rw [if_neg (by omega), w64 (by omega) (by omega), show (i : Int) + 1 = ((i + 1 : Nat) : Int) by omega]
      exact e4 K (by omega)
theorem markBSS_ev {x : List S27} (hx : x.length ≤ 2) (hr : ∀ r ∈ x, r.f1.length ≤ 3 ∧ r.f2.length ≤ 3) : ∃ (t : Int) (g : List S27), 0 ≤ t ∧ Ev (fun K => laws_markBoxS.f K x 101) (t, g) ∧ Ev (fun K => laws_heldBoxS.f K g 101) t := by
  obtain ⟨t, g, h0, _, _, h1, h2⟩ := markBSS_l0 x.length 0 101 x (by omega) (fun r h => by have := hr r h; omega) (by omega) (by omega) (by omega) (by omega)
  exact ⟨t, g, h0, h1, h2⟩
end Go.Proofs.Ytgaoniapddpaaaa.PD
