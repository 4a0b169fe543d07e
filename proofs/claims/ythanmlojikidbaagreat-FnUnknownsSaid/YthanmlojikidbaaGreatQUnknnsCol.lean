import Derived.RowKit
/- Terms with equal exponents added: what a list of terms comes to, told over lists alone: one list, strictly sorted, without zeros, has a given sum at each exponent.
   Conditions: coefficients are 64-bit whole numbers, sums are taken modulo 2^64. -/
namespace Go.Proofs.YthanmlojikidbaaGreatCol
open Go.RowKit
/-- What a term is to this text. -/
structure Ops (S : Type) where
  c : S → Int
  x : S → Int
  y : S → Int
  z : S → Int
  st : S → Int → S
  c_st : ∀ s n, c (st s n) = n
  x_st : ∀ s n, x (st s n) = x s
  y_st : ∀ s n, y (st s n) = y s
  z_st : ∀ s n, z (st s n) = z s
  ext : ∀ s t, c s = c t → x s = x t → y s = y t → z s = z t → s = t
theorem wrap_add (a b : Int) : wrap64 (wrap64 a + b) = wrap64 (a + b) := by unfold wrap64; omega
theorem wrap_wrap (a : Int) : wrap64 (wrap64 a) = wrap64 a := by unfold wrap64; omega
theorem wrap_zero : wrap64 0 = 0 := by unfold wrap64; omega
section
variable {S : Type} (o : Ops S)
/-- -1, 0, 1: the exponents compared. -/
def cmpk (s t : S) : Int := if o.x s < o.x t then -1 else if o.x t < o.x s then 1 else if o.y s < o.y t then -1 else if o.y t < o.y s then 1 else if o.z s < o.z t then -1 else if o.z t < o.z s then 1 else 0
def Lt (s t : S) : Prop := o.x s < o.x t ∨ o.x s = o.x t ∧ (o.y s < o.y t ∨ o.y s = o.y t ∧ o.z s < o.z t)
def Eqk (s t : S) : Prop := o.x s = o.x t ∧ o.y s = o.y t ∧ o.z s = o.z t
instance (s t : S) : Decidable (Eqk o s t) := by unfold Eqk; exact inferInstance
instance (s t : S) : Decidable (Lt o s t) := by unfold Lt; exact inferInstance
variable {o}
theorem cmpk_lt {s t : S} : cmpk o s t < 0 ↔ Lt o s t := by
  unfold cmpk Lt
  repeat' split
  all_goals omega
theorem cmpk_eq {s t : S} : cmpk o s t = 0 ↔ Eqk o s t := by
  unfold cmpk Eqk
  repeat' split
  all_goals omega
theorem Lt.irrefl (s : S) : ¬ Lt o s s := by unfold Lt; omega
theorem Lt.trans {a b c : S} (h : Lt o a b) (k : Lt o b c) : Lt o a c := by unfold Lt at *; omega
theorem Lt.not_eq {a b : S} (h : Lt o a b) : ¬ Eqk o a b := by unfold Lt Eqk at *; omega
theorem Lt.eq_r {a b c : S} (h : Lt o a b) (k : Eqk o b c) : Lt o a c := by unfold Lt Eqk at *; omega
theorem Lt.eq_l {a b c : S} (k : Eqk o a b) (h : Lt o b c) : Lt o a c := by unfold Lt Eqk at *; omega
theorem lt_of_le {a b : S} (h : ¬ Lt o b a) (k : ¬ Eqk o a b) : Lt o a b := by unfold Lt Eqk at *; omega
theorem eqk_refl (s : S) : Eqk o s s := ⟨rfl, rfl, rfl⟩
theorem Eqk.symm {a b : S} (h : Eqk o a b) : Eqk o b a := ⟨h.1.symm, h.2.1.symm, h.2.2.symm⟩
theorem Eqk.trans {a b c : S} (h : Eqk o a b) (k : Eqk o b c) : Eqk o a c := ⟨h.1.trans k.1, h.2.1.trans k.2.1, h.2.2.trans k.2.2⟩
theorem eqk_st (s : S) (n : Int) : Eqk o (o.st s n) s := ⟨o.x_st s n, o.y_st s n, o.z_st s n⟩
variable (o)
/-- The sum at the exponents of s. -/
def cs (l : List S) (s : S) : Int := (l.map (fun t => if Eqk o t s then o.c t else 0)).sum
variable {o}
theorem cs_nil (s : S) : cs o [] s = 0 := rfl
theorem cs_cons (t : S) (l : List S) (s : S) : cs o (t :: l) s = (if Eqk o t s then o.c t else 0) + cs o l s := by simp [cs]
theorem cs_append (l r : List S) (s : S) : cs o (l ++ r) s = cs o l s + cs o r s := by simp [cs]
theorem cs_perm {l r : List S} (h : l.Perm r) (s : S) : cs o l s = cs o r s := by
  induction h with
  | nil => rfl
  | cons x _ ih => rw [cs_cons, cs_cons, ih]
  | swap x y l => rw [cs_cons, cs_cons, cs_cons, cs_cons]; omega
  | trans _ _ ih1 ih2 => rw [ih1, ih2]
theorem cs_none {l : List S} {s : S} (h : ∀ t ∈ l, ¬ Eqk o t s) : cs o l s = 0 := by
  induction l with
  | nil => rfl
  | cons t l ih => rw [cs_cons, if_neg (h t List.mem_cons_self), ih (fun u hu => h u (List.mem_cons_of_mem _ hu))]; rfl
theorem cs_eqk (l : List S) {s t : S} (h : Eqk o s t) : cs o l s = cs o l t := by
  unfold cs
  congr 1
  apply List.map_congr_left
  intro u _
  by_cases c : Eqk o u s
  · rw [if_pos c, if_pos (c.trans h)]
  · rw [if_neg c, if_neg (fun k => c (k.trans h.symm))]
theorem cs_filter (l : List S) (s : S) : cs o (l.filter (fun t => decide (o.c t ≠ 0))) s = cs o l s := by
  induction l with
  | nil => rfl
  | cons t l ih =>
    by_cases c : o.c t = 0
    · rw [List.filter_cons_of_neg (by simp [c]), cs_cons, ih, c]; split <;> omega
    · rw [List.filter_cons_of_pos (by simp [c]), cs_cons, cs_cons, ih]
variable (o)
/-- Strictly sorted, no zeros, 64 bits. -/
structure Nf (l : List S) : Prop where
  lt : l.Pairwise (Lt o)
  nz : ∀ t ∈ l, o.c t ≠ 0
  rg : ∀ t ∈ l, wrap64 (o.c t) = o.c t
variable {o}
theorem pairwise_unique {l : List S} (h : l.Pairwise (Lt o)) {t : S} (ht : t ∈ l) : cs o l t = o.c t := by
  induction l with
  | nil => cases ht
  | cons u l ih =>
    obtain ⟨h1, h2⟩ := List.pairwise_cons.1 h
    rw [cs_cons]
    rcases List.mem_cons.1 ht with rfl | ht
    · rw [if_pos (eqk_refl t), cs_none (fun v hv k => (h1 v hv).not_eq k.symm)]; omega
    · rw [if_neg (h1 t ht).not_eq, ih h2 ht]; omega
theorem mem_of_cs {l : List S} {s : S} (h : cs o l s ≠ 0) : ∃ t ∈ l, Eqk o t s := by
  refine Classical.byContradiction fun hn => h (cs_none fun t ht k => hn ⟨t, ht, k⟩)
theorem nf_sub {l r : List S} (hl : Nf o l) (hr : Nf o r) (h : ∀ s, wrap64 (cs o l s) = wrap64 (cs o r s)) : ∀ t ∈ l, t ∈ r := by
  intro t ht
  have h1 := h t
  rw [pairwise_unique hl.lt ht, hl.rg t ht] at h1
  obtain ⟨u, hu, k⟩ := mem_of_cs (o := o) (l := r) (s := t) (fun e => by rw [e, wrap_zero] at h1; exact hl.nz t ht h1)
  rw [← cs_eqk r k, pairwise_unique hr.lt hu, hr.rg u hu] at h1
  rwa [o.ext t u h1 k.1.symm k.2.1.symm k.2.2.symm]
theorem eq_of_mem : ∀ {l r : List S}, l.Pairwise (Lt o) → r.Pairwise (Lt o) → (∀ t, t ∈ l ↔ t ∈ r) → l = r
  | [], [], _, _, _ => rfl
  | [], u :: _, _, _, h => absurd ((h u).2 List.mem_cons_self) (by simp)
  | t :: _, [], _, _, h => absurd ((h t).1 List.mem_cons_self) (by simp)
  | t :: l, u :: r, hl, hr, h => by
    obtain ⟨l1, l2⟩ := List.pairwise_cons.1 hl
    obtain ⟨r1, r2⟩ := List.pairwise_cons.1 hr
    have e : t = u := by
      rcases List.mem_cons.1 ((h t).1 List.mem_cons_self) with e | h1
      · exact e
      · rcases List.mem_cons.1 ((h u).2 List.mem_cons_self) with e | h2
        · exact e.symm
        · exact absurd ((l1 u h2).trans (r1 t h1)) (Lt.irrefl _)
    subst e
    congr 1
    refine eq_of_mem l2 r2 (fun v => ⟨fun hv => ?_, fun hv => ?_⟩)
    · rcases List.mem_cons.1 ((h v).1 (List.mem_cons_of_mem _ hv)) with e | h1
      · subst e; exact absurd (l1 v hv) (Lt.irrefl _)
      · exact h1
    · rcases List.mem_cons.1 ((h v).2 (List.mem_cons_of_mem _ hv)) with e | h1
      · subst e; exact absurd (r1 v hv) (Lt.irrefl _)
      · exact h1
theorem nf_unique {l r : List S} (hl : Nf o l) (hr : Nf o r) (h : ∀ s, wrap64 (cs o l s) = wrap64 (cs o r s)) : l = r :=
  eq_of_mem hl.lt hr.lt (fun t => ⟨nf_sub hl hr h t, nf_sub hr hl (fun s => (h s).symm) t⟩)
/-! ### a sorted list, neighbours with equal exponents added -/
variable (o)
def stp (d : S) (out : List S) (t : S) : List S := if 0 < out.length ∧ Eqk o (out.getD (out.length - 1) d) t then out.set (out.length - 1) (o.st (out.getD (out.length - 1) d) (wrap64 (o.c (out.getD (out.length - 1) d) + o.c t))) else out ++ [t]
def mrg (d : S) (out l : List S) : List S := l.foldl (stp o d) out
variable {o}
theorem snoc_cases {α : Type} (l : List α) : l = [] ∨ ∃ i x, l = i ++ [x] := by
  rcases List.eq_nil_or_concat l with h | ⟨i, x, h⟩
  · exact Or.inl h
  · exact Or.inr ⟨i, x, by rw [h, List.concat_eq_append]⟩
theorem stp_nil (d t : S) : stp o d [] t = [t] := by simp [stp]
theorem stp_snoc (d : S) (i : List S) (x t : S) : stp o d (i ++ [x]) t = if Eqk o x t then i ++ [o.st x (wrap64 (o.c x + o.c t))] else i ++ [x] ++ [t] := by
  unfold stp
  have e : (i ++ [x]).getD ((i ++ [x]).length - 1) d = x := by simp [List.getD_eq_getElem?_getD]
  rw [e]
  by_cases c : Eqk o x t
  · rw [if_pos ⟨by simp, c⟩, if_pos c]
    simp
  · rw [if_neg (fun h => c h.2), if_neg c]
theorem stp_len (d : S) (out : List S) (t : S) : (stp o d out t).length ≤ out.length + 1 := by
  unfold stp; split <;> simp
theorem mrg_len (d : S) : ∀ (l out : List S), (mrg o d out l).length ≤ out.length + l.length
  | [], out => Nat.le_refl _
  | t :: l, out => by
    have h1 := mrg_len d l (stp o d out t)
    have h2 := stp_len (o := o) d out t
    have h3 : (mrg o d out (t :: l)).length = (mrg o d (stp o d out t) l).length := rfl
    rw [h3, List.length_cons]; omega
theorem mrg_ok (d : S) : ∀ (l out : List S), out.Pairwise (Lt o) → (∀ u ∈ out, wrap64 (o.c u) = o.c u) → (∀ t ∈ l, wrap64 (o.c t) = o.c t) → (∀ u ∈ out, ∀ t ∈ l, ¬ Lt o t u) → l.Pairwise (fun a b => ¬ Lt o b a) →
    (mrg o d out l).Pairwise (Lt o) ∧ (∀ u ∈ mrg o d out l, wrap64 (o.c u) = o.c u) ∧ ∀ s, wrap64 (cs o (mrg o d out l) s) = wrap64 (cs o out s + cs o l s)
  | [], out, h1, h2, _, _, _ => ⟨h1, h2, fun s => by rw [cs_nil]; show wrap64 (cs o out s) = _; congr 1; omega⟩
  | t :: l, out, h1, h2, h3, h4, h5 => by
    obtain ⟨p1, p2⟩ := List.pairwise_cons.1 h5
    show (mrg o d (stp o d out t) l).Pairwise (Lt o) ∧ (∀ u ∈ mrg o d (stp o d out t) l, wrap64 (o.c u) = o.c u) ∧ ∀ s, wrap64 (cs o (mrg o d (stp o d out t) l) s) = _
    have key : (stp o d out t).Pairwise (Lt o) ∧ (∀ u ∈ stp o d out t, wrap64 (o.c u) = o.c u) ∧ (∀ u ∈ stp o d out t, ∀ v ∈ l, ¬ Lt o v u) ∧ ∀ s, wrap64 (cs o (stp o d out t) s) = wrap64 (cs o out s + (if Eqk o t s then o.c t else 0)) := by
      rcases snoc_cases out with e | ⟨i, x, e⟩
      · subst e
        rw [stp_nil]
        refine ⟨List.pairwise_singleton _ _, fun u hu => ?_, fun u hu v hv => ?_, fun s => ?_⟩
        · rw [List.mem_singleton.1 hu]; exact h3 t List.mem_cons_self
        · rw [List.mem_singleton.1 hu]; exact p1 v hv
        · rw [cs_cons, cs_nil]; congr 1; omega
      · subst e
        rw [stp_snoc]
        obtain ⟨q1, q2, q3⟩ := List.pairwise_append.1 h1
        have hx : ∀ v ∈ t :: l, ¬ Lt o v x := h4 x (List.mem_append_right _ List.mem_cons_self)
        by_cases c : Eqk o x t
        · rw [if_pos c]
          refine ⟨List.pairwise_append.2 ⟨q1, List.pairwise_singleton _ _, fun a ha b hb => ?_⟩, fun u hu => ?_, fun u hu v hv => ?_, fun s => ?_⟩
          · rw [List.mem_singleton.1 hb]
            exact (q3 a ha x List.mem_cons_self).eq_r (eqk_st x _).symm
          · rcases List.mem_append.1 hu with hu | hu
            · exact h2 u (List.mem_append_left _ hu)
            · rw [List.mem_singleton.1 hu, o.c_st, wrap_wrap]
          · rcases List.mem_append.1 hu with hu | hu
            · exact h4 u (List.mem_append_left _ hu) v (List.mem_cons_of_mem _ hv)
            · rw [List.mem_singleton.1 hu]
              exact fun k => hx v (List.mem_cons_of_mem _ hv) (k.eq_r (eqk_st x _))
          · rw [cs_append, cs_append, cs_cons, cs_cons, cs_nil]
            by_cases k : Eqk o t s
            · rw [if_pos k, if_pos (((eqk_st x _).trans c).trans k), if_pos (c.trans k), o.c_st]
              unfold wrap64; omega
            · rw [if_neg k, if_neg (fun k2 => k ((((eqk_st x _).trans c).symm).trans k2)), if_neg (fun k2 => k (c.symm.trans k2))]
              congr 1; omega
        · rw [if_neg c]
          have hxt : Lt o x t := lt_of_le (hx t List.mem_cons_self) c
          refine ⟨List.pairwise_append.2 ⟨h1, List.pairwise_singleton _ _, fun a ha b hb => ?_⟩, fun u hu => ?_, fun u hu v hv => ?_, fun s => ?_⟩
          · rw [List.mem_singleton.1 hb]
            rcases List.mem_append.1 ha with ha | ha
            · exact (q3 a ha x List.mem_cons_self).trans hxt
            · rw [List.mem_singleton.1 ha]; exact hxt
          · rcases List.mem_append.1 hu with hu | hu
            · exact h2 u hu
            · rw [List.mem_singleton.1 hu]; exact h3 t List.mem_cons_self
          · rcases List.mem_append.1 hu with hu | hu
            · exact h4 u hu v (List.mem_cons_of_mem _ hv)
            · rw [List.mem_singleton.1 hu]; exact p1 v hv
          · rw [cs_append, cs_cons, cs_nil]; congr 1; omega
    obtain ⟨k1, k2, k3, k4⟩ := key
    obtain ⟨r1, r2, r3⟩ := mrg_ok d l (stp o d out t) k1 k2 (fun u hu => h3 u (List.mem_cons_of_mem _ hu)) k3 p2
    refine ⟨r1, r2, fun s => ?_⟩
    rw [r3, cs_cons, ← wrap_add, k4, wrap_add]
    congr 1; omega
/-- Sorted, added, zeros struck. -/
theorem merged_nf (d : S) {l m : List S} (hp : m.Perm l) (hs : m.Pairwise (fun a b => ¬ Lt o b a)) (hr : ∀ t ∈ l, wrap64 (o.c t) = o.c t) :
    Nf o ((mrg o d [] m).filter (fun t => decide (o.c t ≠ 0))) ∧ ∀ s, wrap64 (cs o ((mrg o d [] m).filter (fun t => decide (o.c t ≠ 0))) s) = wrap64 (cs o l s) := by
  obtain ⟨r1, r2, r3⟩ := mrg_ok (o := o) d m [] List.Pairwise.nil (fun u hu => by cases hu) (fun t ht => hr t (hp.mem_iff.1 ht)) (fun u hu => by cases hu) hs
  refine ⟨⟨r1.filter _, fun t ht => of_decide_eq_true (List.mem_filter.1 ht).2, fun t ht => r2 t (List.mem_filter.1 ht).1⟩, fun s => ?_⟩
  rw [cs_filter, r3, cs_nil, cs_perm hp]
  congr 1; omega
/-! ### one term put into a list that is in order -/
variable (o)
/-- How many stand ahead of t. -/
def ahd (t : S) : List S → Nat
  | [] => 0
  | u :: l => if Lt o u t then ahd t l + 1 else 0
def put (p : List S) (t : S) : List S :=
  match p.drop (ahd o t p) with
  | [] => p.take (ahd o t p) ++ (if o.c t ≠ 0 then [t] else [])
  | u :: r => if Eqk o u t then p.take (ahd o t p) ++ ((if wrap64 (o.c t + o.c u) ≠ 0 then [o.st t (wrap64 (o.c t + o.c u))] else []) ++ r) else p.take (ahd o t p) ++ ((if o.c t ≠ 0 then [t] else []) ++ u :: r)
variable {o}
theorem ahd_le (t : S) : ∀ p : List S, ahd o t p ≤ p.length
  | [] => Nat.le_refl _
  | u :: l => by unfold ahd; split <;> simp; exact ahd_le t l
theorem ahd_take (t : S) : ∀ (p : List S), ∀ u ∈ p.take (ahd o t p), Lt o u t
  | [], u, h => by simp at h
  | v :: l, u, h => by
    unfold ahd at h
    split at h
    · rename_i c
      rw [List.take_succ_cons] at h
      rcases List.mem_cons.1 h with e | h
      · subst e; exact c
      · exact ahd_take t l u h
    · simp at h
theorem ahd_drop (t : S) : ∀ (p : List S) (u : S) (r : List S), p.drop (ahd o t p) = u :: r → ¬ Lt o u t
  | [], u, r, h => by simp at h
  | v :: l, u, r, h => by
    unfold ahd at h
    split at h
    · rw [List.drop_succ_cons] at h; exact ahd_drop t l u r h
    · rename_i c
      rw [List.drop_zero] at h
      injection h with e _
      subst e; exact c
theorem put_ok {p : List S} {t : S} (hp : Nf o p) (ht : wrap64 (o.c t) = o.c t) : Nf o (put o p t) ∧ ∀ s, wrap64 (cs o (put o p t) s) = wrap64 (cs o p s + (if Eqk o t s then o.c t else 0)) := by
  have e0 := List.take_append_drop (ahd o t p) p
  have hA := ahd_take (o := o) t p
  have hD := ahd_drop (o := o) t p
  obtain ⟨A, hAe⟩ : ∃ A, p.take (ahd o t p) = A := ⟨_, rfl⟩
  unfold put
  rw [hAe] at e0 hA ⊢
  cases hd : p.drop (ahd o t p) with
  | nil =>
    rw [hd, List.append_nil] at e0
    subst e0
    simp only []
    by_cases c : o.c t = 0
    · rw [if_neg (fun h => h c), List.append_nil]
      refine ⟨hp, fun s => ?_⟩
      rw [c]; split <;> (congr 1; omega)
    · rw [if_pos c]
      refine ⟨⟨List.pairwise_append.2 ⟨hp.lt, List.pairwise_singleton _ _, fun a ha b hb => by rw [List.mem_singleton.1 hb]; exact hA a ha⟩, fun u hu => ?_, fun u hu => ?_⟩, fun s => ?_⟩
      · rcases List.mem_append.1 hu with hu | hu
        · exact hp.nz u hu
        · rw [List.mem_singleton.1 hu]; exact c
      · rcases List.mem_append.1 hu with hu | hu
        · exact hp.rg u hu
        · rw [List.mem_singleton.1 hu]; exact ht
      · rw [cs_append, cs_cons, cs_nil]; congr 1; omega
  | cons u r =>
    have hu0 := hD u r hd
    rw [hd] at e0
    have hlt := hp.lt
    rw [← e0] at hlt
    obtain ⟨q1, q2, q3⟩ := List.pairwise_append.1 hlt
    obtain ⟨q4, q5⟩ := List.pairwise_cons.1 q2
    have hm : ∀ v, v ∈ A ∨ v ∈ u :: r → v ∈ p := fun v h => by rw [← e0]; exact List.mem_append.2 h
    have hcs : ∀ s, cs o p s = cs o A s + ((if Eqk o u s then o.c u else 0) + cs o r s) := fun s => by rw [← e0, cs_append, cs_cons]
    simp only []
    by_cases k : Eqk o u t
    · rw [if_pos k]
      have tr : ∀ v ∈ r, Lt o t v := fun v hv => Lt.eq_l k.symm (q4 v hv)
      by_cases c : wrap64 (o.c t + o.c u) = 0
      · rw [if_neg (fun h => h c), List.nil_append]
        refine ⟨⟨List.pairwise_append.2 ⟨q1, q5, fun a ha b hb => q3 a ha b (List.mem_cons_of_mem _ hb)⟩, fun v hv => ?_, fun v hv => ?_⟩, fun s => ?_⟩
        · rcases List.mem_append.1 hv with hv | hv
          · exact hp.nz v (hm v (Or.inl hv))
          · exact hp.nz v (hm v (Or.inr (List.mem_cons_of_mem _ hv)))
        · rcases List.mem_append.1 hv with hv | hv
          · exact hp.rg v (hm v (Or.inl hv))
          · exact hp.rg v (hm v (Or.inr (List.mem_cons_of_mem _ hv)))
        · rw [cs_append, hcs]
          by_cases w : Eqk o t s
          · rw [if_pos w, if_pos (k.trans w)]
            unfold wrap64 at *; omega
          · rw [if_neg w, if_neg (fun w2 => w (k.symm.trans w2))]
            congr 1; omega
      · rw [if_pos c]
        have es := eqk_st (o := o) t (wrap64 (o.c t + o.c u))
        refine ⟨⟨List.pairwise_append.2 ⟨q1, List.pairwise_cons.2 ⟨fun v hv => Lt.eq_l es (tr v hv), q5⟩, fun a ha b hb => ?_⟩, fun v hv => ?_, fun v hv => ?_⟩, fun s => ?_⟩
        · rcases List.mem_cons.1 hb with e | hb
          · rw [e]; exact (hA a ha).eq_r es.symm
          · exact q3 a ha b (List.mem_cons_of_mem _ hb)
        · rcases List.mem_append.1 hv with hv | hv
          · exact hp.nz v (hm v (Or.inl hv))
          · rcases List.mem_cons.1 hv with e | hv
            · rw [e, o.c_st]; exact c
            · exact hp.nz v (hm v (Or.inr (List.mem_cons_of_mem _ hv)))
        · rcases List.mem_append.1 hv with hv | hv
          · exact hp.rg v (hm v (Or.inl hv))
          · rcases List.mem_cons.1 hv with e | hv
            · rw [e, o.c_st, wrap_wrap]
            · exact hp.rg v (hm v (Or.inr (List.mem_cons_of_mem _ hv)))
        · rw [cs_append, show (([o.st t (wrap64 (o.c t + o.c u))] : List S) ++ r) = o.st t (wrap64 (o.c t + o.c u)) :: r from rfl, cs_cons, hcs, o.c_st]
          by_cases w : Eqk o t s
          · rw [if_pos w, if_pos (es.trans w), if_pos (k.trans w)]
            unfold wrap64; omega
          · rw [if_neg w, if_neg (fun w2 => w (es.symm.trans w2)), if_neg (fun w2 => w (k.symm.trans w2))]
            congr 1; omega
    · rw [if_neg k]
      have htu : Lt o t u := lt_of_le hu0 (fun h => k h.symm)
      by_cases c : o.c t = 0
      · rw [if_neg (fun h => h c), List.nil_append, e0]
        refine ⟨hp, fun s => ?_⟩
        rw [c]; split <;> (congr 1; omega)
      · rw [if_pos c]
        refine ⟨⟨List.pairwise_append.2 ⟨q1, List.pairwise_cons.2 ⟨fun v hv => ?_, q2⟩, fun a ha b hb => ?_⟩, fun v hv => ?_, fun v hv => ?_⟩, fun s => ?_⟩
        · rcases List.mem_cons.1 hv with e | hv
          · rw [e]; exact htu
          · exact htu.trans (q4 v hv)
        · rcases List.mem_cons.1 hb with e | hb
          · rw [e]; exact hA a ha
          · exact q3 a ha b hb
        · rcases List.mem_append.1 hv with hv | hv
          · exact hp.nz v (hm v (Or.inl hv))
          · rcases List.mem_cons.1 hv with e | hv
            · rw [e]; exact c
            · exact hp.nz v (hm v (Or.inr hv))
        · rcases List.mem_append.1 hv with hv | hv
          · exact hp.rg v (hm v (Or.inl hv))
          · rcases List.mem_cons.1 hv with e | hv
            · rw [e]; exact ht
            · exact hp.rg v (hm v (Or.inr hv))
        · rw [cs_append, show (([t] : List S) ++ u :: r) = t :: u :: r from rfl, cs_cons, cs_cons, hcs]
          congr 1; omega
variable (o)
/-- What a list of terms comes to. -/
def sums (l : List S) : List S := l.foldl (put o) []
variable {o}
theorem put_fold : ∀ (l p : List S), Nf o p → (∀ t ∈ l, wrap64 (o.c t) = o.c t) → Nf o (l.foldl (put o) p) ∧ ∀ s, wrap64 (cs o (l.foldl (put o) p) s) = wrap64 (cs o p s + cs o l s)
  | [], p, h, _ => ⟨h, fun s => by rw [cs_nil]; show wrap64 (cs o p s) = _; congr 1; omega⟩
  | t :: l, p, h, hr => by
    obtain ⟨k1, k2⟩ := put_ok h (hr t List.mem_cons_self)
    obtain ⟨r1, r2⟩ := put_fold l (put o p t) k1 (fun u hu => hr u (List.mem_cons_of_mem _ hu))
    refine ⟨r1, fun s => ?_⟩
    show wrap64 (cs o (l.foldl (put o) (put o p t)) s) = _
    rw [r2, ← wrap_add, k2, wrap_add, cs_cons]
    congr 1; omega
theorem sums_nf {l : List S} (hr : ∀ t ∈ l, wrap64 (o.c t) = o.c t) : Nf o (sums o l) ∧ ∀ s, wrap64 (cs o (sums o l) s) = wrap64 (cs o l s) := by
  obtain ⟨r1, r2⟩ := put_fold (o := o) l [] ⟨List.Pairwise.nil, (fun t h => by cases h), (fun t h => by cases h)⟩ hr
  refine ⟨r1, fun s => ?_⟩
  show wrap64 (cs o (l.foldl (put o) []) s) = _
  rw [r2, cs_nil]; congr 1; omega
/-- Sorted, added, zeros struck: the same list as term by term put in. -/
theorem merged_eq (d : S) {l m : List S} (hp : m.Perm l) (hs : m.Pairwise (fun a b => ¬ Lt o b a)) (hr : ∀ t ∈ l, wrap64 (o.c t) = o.c t) :
    (mrg o d [] m).filter (fun t => decide (o.c t ≠ 0)) = sums o l := by
  obtain ⟨a1, a2⟩ := merged_nf (o := o) d hp hs hr
  obtain ⟨b1, b2⟩ := sums_nf (o := o) hr
  exact nf_unique a1 b1 (fun s => (a2 s).trans (b2 s).symm)
end
end Go.Proofs.YthanmlojikidbaaGreatCol
