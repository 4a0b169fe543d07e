import Derived.Test.YthanmlojikidbaaQPolylsPDx34
import Derived.Test.YthanmlojikidbaaQPolylsPDx0
import Derived.Test.YthanmlojikidbaaQPolylsDa
import Derived.Test.YthanmlojikidbaaQPolylsAl
/- FnPolynomials, told over numbers and lists alone: at all lists of bytes the law's equations hold. -/
namespace Go.Proofs.Ythanmlojikidbaa.Pure
open Go.RowKit Go.Proofs.Ythanmlojikidbaa.PD Go.Proofs.YthanmlojikidbaaW.PrintWords Go.Proofs.YthanmlojikidbaaW.PrintLast Go.Proofs.YthanmlojikidbaaW.PrintMore
open Go.Proofs.YthanmlojikidbaaCol (Lt Eqk put sums ahd cs Nf cs_append wrap_wrap)
theorem good_lt {l : List S51} (h : goodT l = true) : l.Pairwise (Lt O) := by
  obtain ⟨_, _, hlt⟩ := goodT_ok h
  have key : ∀ (d i : Nat), i + d + 1 < l.length → Lt O (l.getD i z51) (l.getD (i + d + 1) z51) := by
    intro d
    induction d with
    | zero =>
      intro i hi
      have := ltT_iff.1 (hlt (i + 1) (by omega) (by omega))
      rw [Nat.add_sub_cancel] at this
      exact this
    | succ d ih =>
      intro i hi
      have h1 := ih i (by omega)
      have h2 := ltT_iff.1 (hlt (i + d + 2) (by omega) (by omega))
      rw [show i + d + 2 - 1 = i + d + 1 by omega] at h2
      exact h1.trans h2
  rw [List.pairwise_iff_getElem]
  intro i j hi hj hij
  have := key (j - i - 1) i (by omega)
  rw [show i + (j - i - 1) + 1 = j by omega, List.getD_eq_getElem?_getD, List.getD_eq_getElem?_getD, List.getElem?_eq_getElem hi, List.getElem?_eq_getElem hj] at this
  exact this
theorem good_mem {l : List S51} (h : goodT l = true) : ∀ t ∈ l, okT t = true := by
  intro t ht
  obtain ⟨i, hi, e⟩ := mem_getD ht
  exact e ▸ (goodT_ok h).2.1 i hi
theorem good_of {l : List S51} (h1 : l.length ≤ 20) (h2 : ∀ t ∈ l, okT t = true) (h3 : l.Pairwise (Lt O)) : goodT l = true := by
  have key : ∀ (d i : Nat), i + d = l.length → polRun l d i = true := by
    intro d
    induction d with
    | zero => intro i _; unfold polRun; exact decide_eq_true h1
    | succ d ih =>
      intro i hi
      have hil : i < l.length := by omega
      unfold polRun
      rw [if_pos (h2 _ (getD_mem hil)), if_pos, ih (i + 1) (by omega)]
      by_cases e : i = 0
      · exact .inl e
      · right
        have := (List.pairwise_iff_getElem.1 h3) (i - 1) i (by omega) hil (by omega)
        rw [ltT_iff, List.getD_eq_getElem?_getD, List.getD_eq_getElem?_getD, List.getElem?_eq_getElem hil, List.getElem?_eq_getElem (by omega : i - 1 < l.length)]
        exact this
  exact key l.length 0 (by omega)
theorem good_nf {l : List S51} (h : goodT l = true) : Nf O l := ⟨good_lt h, fun t ht => (okT_iff.1 (good_mem h t ht)).2.2.1, fun t ht => (sm_goodA h t ht).2⟩
theorem good_Sm {l : List S51} (h : goodT l = true) : Sm l := fun t ht => by have := okT_iff.1 (good_mem h t ht); omega
theorem good_Wr {l : List S51} (h : goodT l = true) : Wr l := (good_nf h).rg
theorem resT_true {l : List S51} (h : (resT l).2 = true) : resT l = (sums O l, true) ∧ goodT (sums O l) = true := by
  unfold resT at h ⊢
  by_cases c : goodT (sums impl_collect.ops l) = true
  · exact ⟨if_pos c, c⟩
  · rw [if_neg c] at h; cases h
theorem addR_true {l m : List S51} (h : (addR l m).2 = true) : goodT l = true ∧ goodT m = true ∧ addR l m = (sums O (l ++ m), true) ∧ goodT (sums O (l ++ m)) = true := by
  unfold addR at h ⊢
  by_cases c : goodT l = true ∧ goodT m = true
  · rw [if_pos c] at h ⊢
    exact ⟨c.1, c.2, (resT_true h).1, (resT_true h).2⟩
  · rw [if_neg c] at h; cases h
theorem mulR_true {l m : List S51} (h : (mulR l m).2 = true) : goodT l = true ∧ goodT m = true ∧ mulR l m = (sums O (prods l m), true) ∧ goodT (sums O (prods l m)) = true := by
  unfold mulR at h ⊢
  by_cases c : goodT l = true ∧ goodT m = true
  · rw [if_pos c] at h ⊢
    exact ⟨c.1, c.2, (resT_true h).1, (resT_true h).2⟩
  · rw [if_neg c] at h; cases h
theorem derR_true {l : List S51} {a : Int} (h : (derR l a).2 = true) : goodT l = true ∧ derR l a = (sums O (dD a l), true) ∧ goodT (sums O (dD a l)) = true := by
  unfold derR at h ⊢
  by_cases c : goodT l = true ∧ (0 ≤ a ∧ a ≤ 2)
  · rw [if_pos c] at h ⊢
    exact ⟨c.1, (resT_true h).1, (resT_true h).2⟩
  · rw [if_neg c] at h; cases h
theorem r_len {l : List S51} {P : Prop} [Decidable P] : (if P then resT l else ([], false)).1.length ≤ 20 := by split; exact resT_len _; simp
theorem prods_Wr (p q : List S51) : Wr (prods p q) := fun t ht => by
  unfold prods at ht
  obtain ⟨a, _, hb⟩ := List.mem_flatMap.1 ht
  obtain ⟨b, _, e⟩ := List.mem_map.1 hb
  rw [← e]; exact wrap_wrap _
theorem app_Wr {l m : List S51} (h : Wr l) (k : Wr m) : Wr (l ++ m) := fun t ht => (List.mem_append.1 ht).elim (h t) (k t)
theorem same_ev {l : List S51} (hl : l.length ≤ 1000000) : ∃ n, ∀ K, n ≤ K → laws_pSameTerms.f K l l = some true := by
  have key : ∀ (d i K : Nat), i + d = l.length → d < K → laws_pSameTerms.l0 K l l (l.length : Int) (i : Int) = some true := by
    intro d
    induction d with
    | zero =>
      intro i K hi hK
      obtain ⟨K, rfl⟩ : ∃ j, K = j + 1 := ⟨K - 1, by omega⟩
      rw [laws_pSameTerms.l0, if_neg (by omega)]
    | succ d ih =>
      intro i K hi hK
      obtain ⟨K, rfl⟩ : ∃ j, K = j + 1 := ⟨K - 1, by omega⟩
      rw [laws_pSameTerms.l0, if_pos (by omega), if_pos (by omega), if_pos (by omega), if_pos (by omega), if_neg (by simp), w64 (by omega) (by omega), show (i : Int) + 1 = ((i + 1 : Nat) : Int) by omega]
      exact ih (i + 1) K (by omega) (by omega)
  refine ⟨l.length + 1, fun K hK => ?_⟩
  unfold laws_pSameTerms.f
  rw [if_pos rfl]
  exact key l.length 0 K (by omega) (by omega)
/-! ### sums, and a sum taken back -/
def ng (l : List S51) : List S51 := l.map (fun t => ⟨-t.f0, t.f1, t.f2, t.f3⟩)
theorem ng_prods : ∀ {q : List S51}, (∀ t ∈ q, okT t = true) → prods q [(⟨-1, 0, 0, 0⟩ : S51)] = ng q
  | [], _ => rfl
  | t :: q, h => by
    have ht := okT_iff.1 (h t List.mem_cons_self)
    have e : ml t (⟨-1, 0, 0, 0⟩ : S51) = ⟨-t.f0, t.f1, t.f2, t.f3⟩ := by
      unfold ml; simp only [Int.add_zero]
      rw [w64 (x := t.f0 * -1) (by omega) (by omega), w64 (x := t.f1) (by omega) (by omega), w64 (x := t.f2) (by omega) (by omega), w64 (x := t.f3) (by omega) (by omega), show t.f0 * -1 = -t.f0 by omega]
    rw [prods_cons, ng_prods (fun u hu => h u (List.mem_cons_of_mem _ hu))]
    show [ml t _] ++ ng q = _
    rw [e]; rfl
theorem ng_good {q : List S51} (h : goodT q = true) : goodT (ng q) = true := by
  refine good_of (by unfold ng; rw [List.length_map]; exact (goodT_ok h).1) (fun t ht => ?_) ?_
  · obtain ⟨u, hu, e⟩ := List.mem_map.1 ht
    have := okT_iff.1 (good_mem h u hu)
    rw [← e, okT_iff]; simp only []; omega
  · exact List.Pairwise.map _ (fun a b hab => hab) (good_lt h)
theorem ng_cs (s : S51) : ∀ q : List S51, cs O (ng q) s = - cs O q s
  | [] => rfl
  | t :: q => by
    show cs O ((⟨-t.f0, t.f1, t.f2, t.f3⟩ : S51) :: ng q) s = _
    rw [cs_two, cs_two t q, ng_cs s q, one_cs, one_cs]
    have : (Eqk O (⟨-t.f0, t.f1, t.f2, t.f3⟩ : S51) s) ↔ Eqk O t s := Iff.rfl
    by_cases c : Eqk O t s
    · rw [if_pos (this.2 c), if_pos c]; simp only []; omega
    · rw [if_neg (fun k => c (this.1 k)), if_neg c]; omega
theorem back {p q : List S51} (hp : goodT p = true) (hq : goodT q = true) : sums O (sums O (p ++ q) ++ ng q) = p := by
  have hw := app_Wr (good_Wr hp) (good_Wr hq)
  refine nf_eq (sums_nf' (app_Wr (sums_nf' hw).rg (good_Wr (ng_good hq)))) (good_nf hp) ((sums_eqv (app_Wr (sums_nf' hw).rg (good_Wr (ng_good hq)))).trans ?_)
  refine (eqv.append (sums_eqv hw) (eqv.refl (ng q))).trans (fun s => cong.of_eq ?_)
  rw [cs_append, cs_append, ng_cs]; omega
theorem dD_ex {a : Int} (ha : 0 ≤ a ∧ a ≤ 2) {l : List S51} (h : Sm l) : Ex (dD a l) := fun t ht => by
  obtain ⟨u, hu, e⟩ := List.mem_map.1 ht
  have hs := h u hu
  have hc : a = 0 ∨ a = 1 ∨ a = 2 := by omega
  rw [← e]
  rcases hc with rfl | rfl | rfl <;> unfold impl_derive.tm <;> simp only [if_true, Int.reduceEq, if_false] <;> rw [mx_dec (by omega) (by omega)] <;> (split <;> omega)
theorem prods_ex {p q : List S51} (hp : Sm p) (hq : Sm q) : Ex (prods p q) := fun t ht => by
  unfold prods at ht
  obtain ⟨a, ha, hb⟩ := List.mem_flatMap.1 ht
  obtain ⟨b, hb, e⟩ := List.mem_map.1 hb
  have h1 := hp a ha
  have h2 := hq b hb
  rw [← e]; simp only []
  rw [w64 (by omega) (by omega), w64 (by omega) (by omega), w64 (by omega) (by omega)]; omega
/-- The rule of products, where all is in range. -/
theorem rule_eq {p q a b c d m : List S51} {k : Int} (hk : 0 ≤ k ∧ k ≤ 2) (hp : goodT p = true) (hq : goodT q = true) (ea : a = sums O (dD k p)) (ga : goodT a = true) (eb : b = sums O (dD k q)) (gb : goodT b = true) (ec : c = sums O (prods a q)) (ed : d = sums O (prods p b)) (em : m = sums O (prods p q)) (gm : goodT m = true) :
    sums O (c ++ d) = sums O (dD k m) := by
  have sp := good_Sm hp; have sq := good_Sm hq
  have wc : Wr c := by rw [ec]; exact (sums_nf' (prods_Wr _ _)).rg
  have wd : Wr d := by rw [ed]; exact (sums_nf' (prods_Wr _ _)).rg
  refine sums_of_eqv (app_Wr wc wd) dD_w ?_
  have e1 : eqv c (prods (dD k p) q) := by
    rw [ec]
    refine (sums_eqv (prods_Wr _ _)).trans (prods_eqv_l (good_Sm ga).ex (dD_ex hk sp) sq.ex ?_)
    rw [ea]; exact sums_eqv dD_w
  have e2 : eqv d (prods p (dD k q)) := by
    rw [ed]
    refine (sums_eqv (prods_Wr _ _)).trans (prods_eqv_r (good_Sm gb).ex (dD_ex hk sq) ?_ sp.ex)
    rw [eb]; exact sums_eqv dD_w
  refine (eqv.append e1 e2).trans ((rule_prods hk sq sp).symm.trans (der_eqv hk (prods_ex sp sq) (good_Sm gm).ex ?_))
  rw [em]; exact (sums_eqv (prods_Wr _ _)).symm
theorem rule_ok {p q : List S51} (hb : (mulR p q).2 = true) {k : Int} (hk : 0 ≤ k ∧ k ≤ 2) : ∃ n, ∀ K, n ≤ K → laws_FnPolynomials.rule K p q (mulR p q).1 k := by
  obtain ⟨gp, gq, em, gm⟩ := mulR_true hb
  have lp : p.length ≤ 1000000 := by have := (goodT_ok gp).1; omega
  have lq : q.length ≤ 1000000 := by have := (goodT_ok gq).1; omega
  have la : (derR p k).1.length ≤ 20 := r_len
  have lb : (derR q k).1.length ≤ 20 := r_len
  have lc : (mulR (derR p k).1 q).1.length ≤ 20 := r_len
  have ld : (mulR p (derR q k).1).1.length ≤ 20 := r_len
  have lm : (mulR p q).1.length ≤ 20 := r_len
  have lf : (derR (mulR p q).1 k).1.length ≤ 20 := r_len
  obtain ⟨n1, e1⟩ := der_ev lp k
  obtain ⟨n2, e2⟩ := der_ev lq k
  obtain ⟨n3, e3⟩ := mul_ev (l := (derR p k).1) (m := q) (by omega) lq
  obtain ⟨n4, e4⟩ := mul_ev (l := p) (m := (derR q k).1) lp (by omega)
  obtain ⟨n5, e5⟩ := add_ev (l := (mulR (derR p k).1 q).1) (m := (mulR p (derR q k).1).1) (by omega) (by omega)
  obtain ⟨n6, e6⟩ := der_ev (l := (mulR p q).1) (by omega) k
  obtain ⟨n7, e7⟩ := same_ev (l := (derR (mulR p q).1 k).1) (by omega)
  refine ⟨n1 + n2 + n3 + n4 + n5 + n6 + n7, fun K hK => ?_⟩
  refine ⟨(derR p k).1, (derR q k).1, (mulR (derR p k).1 q).1, (mulR p (derR q k).1).1, (addR (mulR (derR p k).1 q).1 (mulR p (derR q k).1).1).1, (derR (mulR p q).1 k).1, (derR p k).2, (derR q k).2, (mulR (derR p k).1 q).2, (mulR p (derR q k).1).2, (addR (mulR (derR p k).1 q).1 (mulR p (derR q k).1).1).2, (derR (mulR p q).1 k).2,
    (e1 K (by omega)).1, (e2 K (by omega)).1, (e3 K (by omega)).1, (e4 K (by omega)).1, (e5 K (by omega)).1, (e6 K (by omega)).2, (e6 K (by omega)).1, e7 K (by omega), fun hx => ?_⟩
  simp only [Bool.and_eq_true] at hx
  obtain ⟨⟨⟨⟨⟨x1, x2⟩, x3⟩, x4⟩, x5⟩, x6⟩ := hx
  have a1 := derR_true x1; have a2 := derR_true x2; have a3 := mulR_true x3; have a4 := mulR_true x4; have a5 := addR_true x5; have a6 := derR_true x6
  have ef : (addR (mulR (derR p k).1 q).1 (mulR p (derR q k).1).1).1 = (derR (mulR p q).1 k).1 := by
    rw [congrArg Prod.fst a5.2.2.1, congrArg Prod.fst a6.2.1]
    exact rule_eq hk gp gq (congrArg Prod.fst a1.2.1) (by rw [congrArg Prod.fst a1.2.1]; exact a1.2.2) (congrArg Prod.fst a2.2.1) (by rw [congrArg Prod.fst a2.2.1]; exact a2.2.2) (congrArg Prod.fst a3.2.2.1) (congrArg Prod.fst a4.2.2.1) (congrArg Prod.fst em) (by rw [congrArg Prod.fst em]; exact gm)
  rw [ef]
  exact e7 K (by omega)
end Go.Proofs.Ythanmlojikidbaa.Pure
