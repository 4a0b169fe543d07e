import Derived.Test.YthanmlojikidbaaGreatQUnknnsPDx0
import Derived.Test.YthanmlojikidbaaGreatQUnknnsDz
import Derived.Test.YthanmlojikidbaaGreatQUnknnsMna
/- FnUnknowns, told over numbers and lists alone: at all lists of bytes the law's equations hold. -/
namespace Go.Proofs.YthanmlojikidbaaGreat.Pure
open Go.RowKit Go.Proofs.YthanmlojikidbaaGreat.PD Go.Proofs.YthanmlojikidbaaGreatW.PrintWords Go.Proofs.YthanmlojikidbaaGreatW.PrintLast Go.Proofs.YthanmlojikidbaaGreatW.PrintMore
open Go.Proofs.YthanmlojikidbaaGreatCol (Lt Eqk put sums ahd cs Nf)
abbrev bk := laws_FnUnknowns.bkn
theorem wf_u8 {a : Int} (h : (Lit.int .u8 a).wf = true) : 0 ≤ a ∧ a ≤ 255 := by
  simpa [Lit.wf, IntKind.min, IntKind.max, IntKind.signed, IntKind.bits] using h
theorem same_ev {l : List S62} (hl : l.length ≤ 1000000) : ∃ n, ∀ K, n ≤ K → laws_pSameTerms.f K l l = some true := by
  have key : ∀ (d i K : Nat), i + d = l.length → d < K → laws_pSameTerms.l0 K l l (l.length : Int) (i : Int) = some true := by
    intro d
    induction d with
    | zero =>
      intro i K hi hK
      obtain ⟨K, rfl⟩ : ∃ j, K = j + 1 := ⟨K - 1, by omega⟩
      rw [laws_pSameTerms.l0, if_neg (by omega)]
    | succ d ih =>
      intro i K hi hK
      obtain ⟨K, rfl⟩ : ∃ j, K = j + 1 := ⟨K - 1, by omega⟩
      rw [laws_pSameTerms.l0, if_pos (by omega), if_pos (by omega), if_pos (by omega), if_pos (by omega), if_neg (by simp), w64 (by omega) (by omega), show (i : Int) + 1 = ((i + 1 : Nat) : Int) by omega]
      exact ih (i + 1) K (by omega) (by omega)
  refine ⟨l.length + 1, fun K hK => ?_⟩
  unfold laws_pSameTerms.f
  rw [if_pos rfl]
  exact key l.length 0 K (by omega) (by omega)
theorem sameI_ev {l : List Int} (hl : l.length ≤ 1000000) : ∃ n, ∀ K, n ≤ K → laws_sameInts.f K l l = some true := by
  have key : ∀ (d i K : Nat), i + d = l.length → d < K → laws_sameInts.l0 K l l (l.length : Int) (i : Int) = some true := by
    intro d
    induction d with
    | zero =>
      intro i K hi hK
      obtain ⟨K, rfl⟩ : ∃ j, K = j + 1 := ⟨K - 1, by omega⟩
      rw [laws_sameInts.l0, if_neg (by omega)]
    | succ d ih =>
      intro i K hi hK
      obtain ⟨K, rfl⟩ : ∃ j, K = j + 1 := ⟨K - 1, by omega⟩
      rw [laws_sameInts.l0, if_pos (by omega), if_pos (by omega), if_pos (by omega), if_pos (by omega), if_pos rfl, w64 (by omega) (by omega), show (i : Int) + 1 = ((i + 1 : Nat) : Int) by omega]
      exact ih (i + 1) K (by omega) (by omega)
  refine ⟨l.length + 1, fun K hK => ?_⟩
  unfold laws_sameInts.f
  rw [if_pos rfl]
  exact key l.length 0 K (by omega) (by omega)
theorem pIn_ev {l : List Int} (hl : l.length ≤ 1000000) {v : Int} (hv : v ∉ l) : ∃ n, ∀ K, n ≤ K → laws_pIn.f K l v = some false := by
  have key : ∀ (d i K : Nat), i + d = l.length → d < K → laws_pIn.l0 K v l (l.length : Int) (i : Int) = some false := by
    intro d
    induction d with
    | zero =>
      intro i K hi hK
      obtain ⟨K, rfl⟩ : ∃ j, K = j + 1 := ⟨K - 1, by omega⟩
      rw [laws_pIn.l0, if_neg (by omega)]
    | succ d ih =>
      intro i K hi hK
      obtain ⟨K, rfl⟩ : ∃ j, K = j + 1 := ⟨K - 1, by omega⟩
      have hil : i < l.length := by omega
      have hr : rd l (i : Int) ∈ l := by
        rw [rd_at, List.getD_eq_getElem?_getD, List.getElem?_eq_getElem hil]
        exact List.getElem_mem hil
      rw [laws_pIn.l0, if_pos (by omega), if_pos (by omega), if_pos (by omega), if_neg (fun e : rd l (i : Int) = v => hv (e ▸ hr)), w64 (by omega) (by omega), show (i : Int) + 1 = ((i + 1 : Nat) : Int) by omega]
      exact ih (i + 1) K (by omega) (by omega)
  refine ⟨l.length + 1, fun K hK => ?_⟩
  unfold laws_pIn.f
  exact key l.length 0 K (by omega) (by omega)
/-! ### exchanged back -/
theorem bk_perm {o : List Int} (ho : perm o) : perm (bk o 3) := by
  rcases ho with rfl | rfl | rfl | rfl | rfl | rfl <;> (unfold perm impl_ExchangeUnknowns.perm; decide)
theorem bk_tm {o : List Int} (ho : perm o) (t : S62) : tm (tm t o) (bk o 3) = t := by
  rcases ho with rfl | rfl | rfl | rfl | rfl | rfl <;> rfl
theorem perm_rd {o : List Int} (ho : perm o) : o.length = 3 ∧ ∀ j : Int, 0 ≤ j → j < 3 → 0 ≤ rd o j ∧ rd o j < 3 := by
  have hj : ∀ j : Int, 0 ≤ j → j < 3 → j = 0 ∨ j = 1 ∨ j = 2 := fun j _ _ => by omega
  rcases ho with rfl | rfl | rfl | rfl | rfl | rfl <;> exact ⟨rfl, fun j h0 h3 => by rcases hj j h0 h3 with rfl | rfl | rfl <;> decide⟩
theorem part2_ok {p : List S62} {o : List Int} (hp : p.length ≤ 50) : ∃ n, ∀ K, n ≤ K → laws_FnUnknowns.part2 K p (exR p o).1 o (ofR p).1 (exR p o).2 := by
  have le : (exR p o).1.length ≤ 20 := r_len
  by_cases hb : (exR p o).2 = true
  · obtain ⟨g, h, e⟩ := exR_true hb
    have e1 : (exR p o).1 = sums impl_collect.ops (ex o p) := congrArg Prod.fst e
    have ge : goodT (exR p o).1 = true := by rw [e1]; exact ex_good h g
    have hr := perm_rd h
    have lb : (bk o 3).length ≤ 1000000 := by rw [(perm_rd (bk_perm h)).1]; omega
    obtain ⟨n1, f1⟩ := ex_ev (l := (exR p o).1) (by omega) (o := bk o 3) lb
    obtain ⟨n2, f2⟩ := same_ev (l := p) (by omega)
    obtain ⟨n3, f3⟩ := of_ev (l := (exR p o).1) (by omega)
    obtain ⟨n4, f4⟩ := of_ev (l := p) (by omega)
    have x1 : exR (exR p o).1 (bk o 3) = (p, true) := by
      rw [exR_good ge (bk_perm h), e1, ex_back h (bk_perm h) (bk_tm h) g]
    have x2 : ofR p = (dg p (-1), true) := if_pos g
    have x3 : ofR (exR p o).1 = (dg p (-1), true) := by
      rw [show ofR (exR p o).1 = (dg (exR p o).1 (-1), true) from if_pos ge, e1, dg_ex h g]
    refine ⟨n1 + n2 + n3 + n4, fun K hK _ => ⟨hr, ?_, f2 K (by omega), ?_, ?_⟩⟩
    · rw [(f1 K (by omega)).2, x1]
    · rw [(f3 K (by omega)).2, x3, x2]
    · rw [(f4 K (by omega)).1, x2]
  · exact ⟨0, fun K _ h => absurd h hb⟩
theorem part4_ok {q : List S62} {u n : Int} : ∃ (us : List Int) (d : Int) (k : Nat), ∀ K, k ≤ K → laws_FnUnknowns.part4 K (putR q u n).1 us u d (putR q u n).2 := by
  have lt : (putR q u n).1.length ≤ 20 := r_len
  by_cases hb : (putR q u n).2 = true
  · obtain ⟨g, hu, e, gs⟩ := putR_true hb
    have e1 : (putR q u n).1 = sums impl_collect.ops (pG u n q) := congrArg Prod.fst e
    have gt : goodT (putR q u n).1 = true := by rw [e1]; exact gs
    have fr : ∀ t ∈ (putR q u n).1, impl_DegreeIn.pw t u = 0 := by rw [e1]; exact put_free hu g
    obtain ⟨us, h1, h2, n1, f1⟩ := unk_ev (l := (putR q u n).1) (by omega) gt
    obtain ⟨n2, f2⟩ := in_ev (l := (putR q u n).1) (by omega) u
    obtain ⟨n3, f3⟩ := sameI_ev (l := us) (by omega)
    obtain ⟨n4, f4⟩ := pIn_ev (l := us) (by omega) (v := u) (fun hm => by
      obtain ⟨t, ht, hp⟩ := h2 u hm
      have := fr t ht
      omega)
    have x2 : inR (putR q u n).1 u = (dn u (putR q u n).1 (-1), true) := if_pos ⟨gt, hu⟩
    refine ⟨us, dn u (putR q u n).1 (-1), n1 + n2 + n3 + n4, fun K hK _ => ⟨?_, dn_le (by omega) (fun t ht => by rw [fr t ht]; omega), (f1 K (by omega)).2, (f1 K (by omega)).1, f3 K (by omega), f4 K (by omega)⟩⟩
    rw [(f2 K (by omega)).2, x2]
  · exact ⟨[], 0, 0, fun K _ h => absurd h hb⟩
theorem FnUnknowns (l0 l1 : List Int) (w0 : l0.length ≤ maxLen ∧ ∀ y ∈ l0, (Lit.int .u8 y).wf = true) (w1 : l1.length ≤ maxLen ∧ ∀ y ∈ l1, (Lit.int .u8 y).wf = true) : ∃ k, laws_FnUnknowns.ok k l0 l1 true := by
  have b0 : Bytes l0 := ⟨fun y hy => wf_u8 (w0.2 y hy), w0.1⟩
  have b1 : Bytes l1 := ⟨fun y hy => wf_u8 (w1.2 y hy), w1.1⟩
  obtain ⟨g, hg⟩ : ∃ g, laws_big.f l0 l1 = some g := by
    unfold laws_big.f
    by_cases c : (l0.length : Int) > 1048576
    · rw [if_pos c]; exact ⟨_, rfl⟩
    · rw [if_neg c]; exact ⟨_, rfl⟩
  cases g with
  | true => exact ⟨0, rfl, .inl hg⟩
  | false =>
    obtain ⟨p, o, ⟨kd, ed⟩, hp, ho⟩ := drawEx b0
    obtain ⟨q, u, n, ⟨kq, eq⟩, hq⟩ := drawPut b1
    obtain ⟨v, kk, ⟨kv, ev⟩, hv⟩ := drawIn b1
    obtain ⟨z, ⟨kz, ez⟩, hz⟩ := drawOf b1
    obtain ⟨s, ⟨ks, es⟩, hs, hs2⟩ := drawSys b1
    have le : (exR p o).1.length ≤ 20 := r_len
    have lt : (putR q u n).1.length ≤ 20 := r_len
    obtain ⟨n1, e1⟩ := ex_ev (l := p) (by omega) (o := o) (by omega)
    obtain ⟨n2, e2⟩ := same_ev (l := (exR p o).1) (by omega)
    obtain ⟨n3, e3⟩ := part2_ok (p := p) (o := o) hp
    obtain ⟨n4, e4⟩ := put_ev (l := q) (by omega) u n
    obtain ⟨n5, e5⟩ := same_ev (l := (putR q u n).1) (by omega)
    obtain ⟨us, d2, n6, e6⟩ := part4_ok (q := q) (u := u) (n := n)
    obtain ⟨n7, e7⟩ := in_ev (l := v) (by omega) kk
    obtain ⟨n8, e8⟩ := of_ev (l := z) (by omega)
    obtain ⟨n9, e9⟩ := isPoly_ev (l := z) (by omega)
    obtain ⟨n10, e10⟩ := poSystem_ev (l := s) (by omega) (fun y hy => by have := hs2 y hy; omega)
    obtain ⟨n11, e11⟩ := isSystem_ev (l := s) (by omega) (fun y hy => by have := hs2 y hy; omega)
    dsimp only at e9 e10 e11
    have zb : (ofR z).2 = goodT z := by
      unfold ofR
      by_cases c : goodT z = true
      · rw [if_pos c, c]
      · rw [if_neg c, Bool.eq_false_iff.2 c]
    obtain ⟨K, hK⟩ : ∃ K, K = kd + kq + kv + kz + ks + n1 + n2 + n3 + n4 + n5 + n6 + n7 + n8 + n9 + n10 + n11 := ⟨_, rfl⟩
    refine ⟨K, rfl, .inr ⟨hg, p, (exR p o).1, q, (putR q u n).1, v, z, o, us, s, (ofR p).1, u, n, d2, kk, (inR v kk).1, (ofR z).1, (exR p o).2, (putR q u n).2, (inR v kk).2, (ofR z).2, sysB s, ?_, ?_, ?_, ?_, ?_, ?_, ?_⟩⟩
    · exact ⟨ed K (by omega), (e1 K (by omega)).2, (e1 K (by omega)).1, e2 K (by omega)⟩
    · exact e3 K (by omega)
    · exact ⟨eq K (by omega), (e4 K (by omega)).2, (e4 K (by omega)).1, e5 K (by omega)⟩
    · exact e6 K (by omega)
    · exact ⟨ev K (by omega), (e7 K (by omega)).2, (e7 K (by omega)).1⟩
    · refine ⟨ez K (by omega), (e8 K (by omega)).2, (e8 K (by omega)).1, ?_, fun h => ?_⟩
      · unfold impl_IsPoly.f
        rw [e9 K (by omega), zb]; simp only [bs']
      · rw [zb] at h
        rw [show ofR z = (dg z (-1), true) from if_pos h]
        exact dg_rng h
    · refine ⟨es K (by omega), ?_, ?_⟩
      · unfold impl_IsSystem.f
        rw [e11 K (by omega)]; simp only [bs']
      · unfold spec_IsSystem.f
        rw [e10 K (by omega)]; simp only [bs']
end Go.Proofs.YthanmlojikidbaaGreat.Pure
