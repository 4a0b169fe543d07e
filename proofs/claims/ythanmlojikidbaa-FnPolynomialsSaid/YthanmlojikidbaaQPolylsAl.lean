import Derived.Test.YthanmlojikidbaaQPolylsPDx0
import Derived.Test.YthanmlojikidbaaQPolylsPb
/- Sums of terms modulo 2^64: derivatives, products, and the rule of products: plain lemmas on lists of terms. -/
namespace Go.Proofs.Ythanmlojikidbaa.Pure
open Go.RowKit Go.Proofs.Ythanmlojikidbaa.PD Go.Proofs.YthanmlojikidbaaW.PrintWords Go.Proofs.YthanmlojikidbaaW.PrintLast Go.Proofs.YthanmlojikidbaaW.PrintMore
open Go.Proofs.YthanmlojikidbaaCol (Lt Eqk put sums ahd cs Nf cs_append cs_cons cs_nil nf_unique sums_nf wrap_zero)
/-- Equal modulo 2^64. -/
def cong (a b : Int) : Prop := ∃ k : Int, a = b + k * 18446744073709551616
theorem cong.refl (a : Int) : cong a a := ⟨0, by omega⟩
theorem cong.of_eq {a b : Int} (h : a = b) : cong a b := ⟨0, by omega⟩
theorem cong.symm {a b : Int} (h : cong a b) : cong b a := by obtain ⟨k, h⟩ := h; exact ⟨-k, by omega⟩
theorem cong.trans {a b c : Int} (h : cong a b) (k : cong b c) : cong a c := by obtain ⟨i, h⟩ := h; obtain ⟨j, k⟩ := k; exact ⟨i + j, by omega⟩
theorem cong.add {a b c d : Int} (h : cong a b) (k : cong c d) : cong (a + c) (b + d) := by obtain ⟨i, h⟩ := h; obtain ⟨j, k⟩ := k; exact ⟨i + j, by omega⟩
theorem cong.mul_l (x : Int) {a b : Int} (h : cong a b) : cong (x * a) (x * b) := by
  obtain ⟨i, h⟩ := h
  exact ⟨x * i, by rw [h, Int.mul_add, Int.mul_assoc]⟩
theorem cong.mul_r (x : Int) {a b : Int} (h : cong a b) : cong (a * x) (b * x) := by rw [Int.mul_comm a, Int.mul_comm b]; exact h.mul_l x
theorem cong_wrap (a : Int) : cong (wrap64 a) a := ⟨-((a + 9223372036854775808) / 18446744073709551616), by unfold wrap64; omega⟩
theorem wrap_of_cong {a b : Int} (h : cong a b) : wrap64 a = wrap64 b := by obtain ⟨k, h⟩ := h; unfold wrap64; omega
theorem cong_of_wrap {a b : Int} (h : wrap64 a = wrap64 b) : cong a b := (cong_wrap a).symm.trans (by rw [h]; exact cong_wrap b)
abbrev O := impl_collect.ops
/-- Two lists with the same sums. -/
def eqv (l r : List S51) : Prop := ∀ s, cong (cs O l s) (cs O r s)
theorem eqv.refl (l : List S51) : eqv l l := fun _ => cong.refl _
theorem eqv.symm {l r : List S51} (h : eqv l r) : eqv r l := fun s => (h s).symm
theorem eqv.trans {l r q : List S51} (h : eqv l r) (k : eqv r q) : eqv l q := fun s => (h s).trans (k s)
theorem eqv.append {l r l' r' : List S51} (h : eqv l r) (k : eqv l' r') : eqv (l ++ l') (r ++ r') := fun s => by
  rw [cs_append, cs_append]; exact (h s).add (k s)
def Wr (l : List S51) : Prop := ∀ t ∈ l, wrap64 t.f0 = t.f0
theorem sums_eqv {l : List S51} (hr : Wr l) : eqv (sums O l) l := fun s => cong_of_wrap ((sums_nf (o := O) hr).2 s)
theorem sums_nf' {l : List S51} (hr : Wr l) : Nf O (sums O l) := (sums_nf (o := O) hr).1
theorem nf_eq {l r : List S51} (hl : Nf O l) (hr : Nf O r) (h : eqv l r) : l = r := nf_unique hl hr (fun s => wrap_of_cong (h s))
theorem sums_of_eqv {l r : List S51} (hl : Wr l) (hr : Wr r) (h : eqv l r) : sums O l = sums O r := nf_eq (sums_nf' hl) (sums_nf' hr) ((sums_eqv hl).trans (h.trans (sums_eqv hr).symm))
theorem sums_self {l : List S51} (h : Nf O l) : sums O l = l := nf_eq (sums_nf' h.rg) h (sums_eqv h.rg)
/-! ### exponents that are small -/
def Ex (l : List S51) : Prop := ∀ t ∈ l, 0 ≤ t.f1 ∧ t.f1 ≤ 100 ∧ 0 ≤ t.f2 ∧ t.f2 ≤ 100 ∧ 0 ≤ t.f3 ∧ t.f3 ≤ 100
theorem Ex.tail {t : S51} {l : List S51} (h : Ex (t :: l)) : Ex l := fun u hu => h u (List.mem_cons_of_mem _ hu)
theorem ifc {P Q : Prop} [Decidable P] [Decidable Q] (h : P ↔ Q) (x : Int) : (if P then x else 0) = (if Q then x else 0) := by
  by_cases c : P
  · rw [if_pos c, if_pos (h.1 c)]
  · rw [if_neg c, if_neg (fun k => c (h.2 k))]
theorem one_cs (t s : S51) : cs O [t] s = if Eqk O t s then t.f0 else 0 := by
  rw [cs_cons, cs_nil, Int.add_zero]; rfl
/-! ### derivatives -/
def inc (s : S51) (a : Int) : S51 := if a = 0 then ⟨0, s.f1 + 1, s.f2, s.f3⟩ else (if a = 1 then ⟨0, s.f1, s.f2 + 1, s.f3⟩ else ⟨0, s.f1, s.f2, s.f3 + 1⟩)
theorem mx_dec {e : Int} (h0 : 0 ≤ e) (h1 : e ≤ 100) : mx (wrap64 (e - 1)) 0 = if e = 0 then 0 else e - 1 := by
  unfold mx; rw [w64 (by omega) (by omega)]
  by_cases h : e = 0
  · rw [if_pos h, if_pos (by omega)]
  · rw [if_neg h, if_neg (by omega)]
theorem der_one {t s : S51} {a : Int} (ha : 0 ≤ a ∧ a ≤ 2) (ht : 0 ≤ t.f1 ∧ t.f1 ≤ 100 ∧ 0 ≤ t.f2 ∧ t.f2 ≤ 100 ∧ 0 ≤ t.f3 ∧ t.f3 ≤ 100) :
    cong (if Eqk O (impl_derive.tm t a) s then (impl_derive.tm t a).f0 else 0) (if 0 ≤ pwD s a then (pwD s a + 1) * (if Eqk O t (inc s a) then t.f0 else 0) else 0) := by
  have key : ∀ (e p : Int), 0 ≤ e → e ≤ 100 → (P Q : Prop) → [Decidable P] → [Decidable Q] → (P ↔ ((if e = 0 then 0 else e - 1) = p ∧ Q)) →
      cong (if P then wrap64 (t.f0 * e) else 0) (if 0 ≤ p then (p + 1) * (if e = p + 1 ∧ Q then t.f0 else 0) else 0) := by
    intro e p h0 h1 P Q _ _ hP
    by_cases he : e = 0
    · subst he
      rw [Int.mul_zero, wrap_zero]
      have : ¬ ((0 : Int) = p + 1 ∧ Q) ∨ ¬ 0 ≤ p := by by_cases h : 0 ≤ p; exact .inl (fun h' => by omega); exact .inr h
      rcases this with h | h
      · rw [if_neg h, Int.mul_zero]; split <;> split <;> exact cong.refl _
      · rw [if_neg h]; split <;> exact cong.refl _
    · rw [if_neg he] at hP
      by_cases hp : P
      · obtain ⟨h2, h3⟩ := hP.1 hp
        rw [if_pos hp, if_pos (by omega), if_pos ⟨by omega, h3⟩]
        refine (cong_wrap _).trans (cong.of_eq ?_)
        rw [show p + 1 = e by omega, Int.mul_comm]
      · rw [if_neg hp]
        by_cases h4 : 0 ≤ p
        · rw [if_pos h4, if_neg (fun h => hp (hP.2 ⟨by omega, h.2⟩)), Int.mul_zero]; exact cong.refl _
        · rw [if_neg h4]; exact cong.refl _
  have hc : a = 0 ∨ a = 1 ∨ a = 2 := by omega
  rcases hc with rfl | rfl | rfl
  · have := key t.f1 s.f1 ht.1 ht.2.1 (Eqk O (impl_derive.tm t 0) s) (t.f2 = s.f2 ∧ t.f3 = s.f3) (by
      unfold Eqk O impl_collect.ops impl_derive.tm; simp only [if_true]; rw [mx_dec ht.1 ht.2.1])
    refine this.trans (cong.of_eq ?_)
    unfold pwD inc Eqk O impl_collect.ops
    simp only [if_true]
  · have := key t.f2 s.f2 ht.2.2.1 ht.2.2.2.1 (Eqk O (impl_derive.tm t 1) s) (t.f1 = s.f1 ∧ t.f3 = s.f3) (by
      unfold Eqk O impl_collect.ops impl_derive.tm; simp only [Int.reduceEq, if_false, if_true]; rw [mx_dec ht.2.2.1 ht.2.2.2.1]
      exact ⟨fun h => ⟨h.2.1, h.1, h.2.2⟩, fun h => ⟨h.2.1, h.1, h.2.2⟩⟩)
    refine this.trans (cong.of_eq ?_)
    unfold pwD inc Eqk O impl_collect.ops
    simp only [if_true, Int.reduceEq, if_false]
    rw [ifc (P := t.f2 = s.f2 + 1 ∧ t.f1 = s.f1 ∧ t.f3 = s.f3) (Q := t.f1 = s.f1 ∧ t.f2 = s.f2 + 1 ∧ t.f3 = s.f3) ⟨fun h => ⟨h.2.1, h.1, h.2.2⟩, fun h => ⟨h.2.1, h.1, h.2.2⟩⟩]
  · have := key t.f3 s.f3 ht.2.2.2.2.1 ht.2.2.2.2.2 (Eqk O (impl_derive.tm t 2) s) (t.f1 = s.f1 ∧ t.f2 = s.f2) (by
      unfold Eqk O impl_collect.ops impl_derive.tm; simp only [Int.reduceEq, if_false]; rw [mx_dec ht.2.2.2.2.1 ht.2.2.2.2.2]
      exact ⟨fun h => ⟨h.2.2, h.1, h.2.1⟩, fun h => ⟨h.2.1, h.2.2, h.1⟩⟩)
    refine this.trans (cong.of_eq ?_)
    unfold pwD inc Eqk O impl_collect.ops
    simp only [Int.reduceEq, if_false]
    rw [ifc (P := t.f3 = s.f3 + 1 ∧ t.f1 = s.f1 ∧ t.f2 = s.f2) (Q := t.f1 = s.f1 ∧ t.f2 = s.f2 ∧ t.f3 = s.f3 + 1) ⟨fun h => ⟨h.2.1, h.2.2, h.1⟩, fun h => ⟨h.2.2, h.1, h.2.1⟩⟩]
theorem der_cs {a : Int} (ha : 0 ≤ a ∧ a ≤ 2) (s : S51) : ∀ {l : List S51}, Ex l → cong (cs O (dD a l) s) (if 0 ≤ pwD s a then (pwD s a + 1) * cs O l (inc s a) else 0)
  | [], _ => by
    show cong 0 _
    split
    · rw [cs_nil, Int.mul_zero]; exact cong.refl _
    · exact cong.refl _
  | t :: l, h => by
    have e : dD a (t :: l) = impl_derive.tm t a :: dD a l := rfl
    rw [e, cs_cons, cs_cons]
    refine ((der_one (s := s) ha (h t List.mem_cons_self)).add (der_cs ha s h.tail)).trans (cong.of_eq ?_)
    split
    · rw [Int.mul_add]; rfl
    · rfl
theorem der_eqv {a : Int} (ha : 0 ≤ a ∧ a ≤ 2) {l r : List S51} (hl : Ex l) (hr : Ex r) (h : eqv l r) : eqv (dD a l) (dD a r) := fun s => by
  refine (der_cs ha s hl).trans (cong.trans ?_ (der_cs ha s hr).symm)
  split
  · exact (h _).mul_l _
  · exact cong.refl _
/-! ### products -/
def ml (t u : S51) : S51 := ⟨wrap64 (t.f0 * u.f0), wrap64 (t.f1 + u.f1), wrap64 (t.f2 + u.f2), wrap64 (t.f3 + u.f3)⟩
theorem prods_cons (t : S51) (p q : List S51) : prods (t :: p) q = q.map (ml t) ++ prods p q := rfl
def sb (s t : S51) : S51 := ⟨0, s.f1 - t.f1, s.f2 - t.f2, s.f3 - t.f3⟩
def E1 (t : S51) : Prop := 0 ≤ t.f1 ∧ t.f1 ≤ 100 ∧ 0 ≤ t.f2 ∧ t.f2 ≤ 100 ∧ 0 ≤ t.f3 ∧ t.f3 ≤ 100
theorem ml_key {t u s : S51} (ht : E1 t) (hu : E1 u) : Eqk O (ml t u) s ↔ Eqk O u (sb s t) := by
  unfold E1 at ht hu
  unfold Eqk O impl_collect.ops ml sb
  simp only []
  rw [w64 (by omega) (by omega), w64 (by omega) (by omega), w64 (by omega) (by omega)]
  omega
theorem row_cs {t : S51} (ht : E1 t) (s : S51) : ∀ {q : List S51}, Ex q → cong (cs O (q.map (ml t)) s) (t.f0 * cs O q (sb s t))
  | [], _ => by rw [List.map_nil, cs_nil, cs_nil, Int.mul_zero]; exact cong.refl _
  | u :: q, h => by
    rw [List.map_cons, cs_cons, cs_cons, Int.mul_add]
    refine cong.add ?_ (row_cs ht s h.tail)
    by_cases c : Eqk O u (sb s t)
    · rw [if_pos ((ml_key ht (h u List.mem_cons_self)).2 c), if_pos c]; exact cong_wrap _
    · rw [if_neg (fun k => c ((ml_key ht (h u List.mem_cons_self)).1 k)), if_neg c, Int.mul_zero]; exact cong.refl _
theorem prods_eqv_r {q r : List S51} (hq : Ex q) (hr : Ex r) (h : eqv q r) : ∀ {p : List S51}, Ex p → eqv (prods p q) (prods p r)
  | [], _ => fun s => cong.refl _
  | t :: p, hp => by
    rw [prods_cons, prods_cons]
    exact eqv.append (fun s => (row_cs (hp t List.mem_cons_self) s hq).trans (((h _).mul_l _).trans (row_cs (hp t List.mem_cons_self) s hr).symm)) (prods_eqv_r hq hr h hp.tail)
theorem ml_comm (t u : S51) : ml t u = ml u t := by unfold ml; rw [Int.mul_comm, Int.add_comm t.f1, Int.add_comm t.f2, Int.add_comm t.f3]
theorem prods_cons_r (t : S51) (q : List S51) (s : S51) : ∀ p : List S51, cs O (prods p (t :: q)) s = cs O (p.map (ml t)) s + cs O (prods p q) s
  | [] => rfl
  | u :: p => by
    rw [prods_cons, prods_cons, List.map_cons, List.map_cons, List.cons_append, cs_cons, cs_append, cs_append, prods_cons_r t q s p, cs_cons, ml_comm u t]
    omega
theorem prods_comm (q : List S51) (s : S51) : ∀ p : List S51, cs O (prods p q) s = cs O (prods q p) s
  | [] => by
    have : ∀ q : List S51, prods q ([] : List S51) = [] := fun q => by induction q with | nil => rfl | cons u q ih => rw [prods_cons, ih]; rfl
    rw [this]; rfl
  | t :: p => by rw [prods_cons, cs_append, prods_cons_r, prods_comm q s p]
theorem prods_eqv_l {p p' q : List S51} (hp : Ex p) (hp' : Ex p') (hq : Ex q) (h : eqv p p') : eqv (prods p q) (prods p' q) := fun s => by
  rw [prods_comm q s p, prods_comm q s p']
  exact prods_eqv_r hp hp' h hq s
/-! ### the rule of products -/
theorem if_and_cong {P Q R : Prop} [Decidable P] [Decidable Q] [Decidable R] {x y z : Int} (hxx : cong x (y + z)) (hq : (P ↔ Q) ∨ cong y 0) (hr : (P ↔ R) ∨ cong z 0) : cong (if P then x else 0) ((if Q then y else 0) + (if R then z else 0)) := by
  have sw : ∀ {A B : Prop} [Decidable A] [Decidable B] {v : Int}, ((A ↔ B) ∨ cong v 0) → cong (if B then v else 0) (if A then v else 0) := by
    intro A B _ _ v h
    rcases h with h | h
    · exact cong.of_eq (ifc h.symm v)
    · split <;> split <;> first | exact cong.refl _ | exact h | exact h.symm
  refine cong.trans ?_ ((sw hq).add (sw hr)).symm
  split
  · exact hxx
  · exact cong.refl _
theorem rule_co (c d e f : Int) : cong (wrap64 (wrap64 (c * d) * (e + f))) (wrap64 (wrap64 (c * e) * d) + wrap64 (c * wrap64 (d * f))) := by
  have h1 : cong (wrap64 (wrap64 (c * d) * (e + f))) (c * d * (e + f)) := (cong_wrap _).trans ((cong_wrap _).mul_r _)
  have h2 : cong (wrap64 (wrap64 (c * e) * d)) (c * e * d) := (cong_wrap _).trans ((cong_wrap _).mul_r _)
  have h3 : cong (wrap64 (c * wrap64 (d * f))) (c * (d * f)) := (cong_wrap _).trans ((cong_wrap _).mul_l _)
  refine h1.trans (cong.trans (cong.of_eq ?_) (h2.add h3).symm)
  rw [Int.mul_add, Int.mul_right_comm c e d, Int.mul_assoc c d f]
theorem zero_l (c d : Int) : cong (wrap64 (wrap64 (c * 0) * d)) 0 := by rw [Int.mul_zero, wrap_zero, Int.zero_mul, wrap_zero]; exact cong.refl _
theorem zero_r (c d : Int) : cong (wrap64 (c * wrap64 (d * 0))) 0 := by rw [Int.mul_zero, wrap_zero, Int.mul_zero, wrap_zero]; exact cong.refl _
theorem rule_gen {c d e f p : Int} {W : Prop} [Decidable W] (h0 : 0 ≤ e) (h1 : 0 ≤ f) (h2 : e + f ≤ 100) :
    cong (if mx (wrap64 (wrap64 (e + f) - 1)) 0 = p ∧ W then wrap64 (wrap64 (c * d) * wrap64 (e + f)) else 0) ((if wrap64 (mx (wrap64 (e - 1)) 0 + f) = p ∧ W then wrap64 (wrap64 (c * e) * d) else 0) + (if wrap64 (e + mx (wrap64 (f - 1)) 0) = p ∧ W then wrap64 (c * wrap64 (d * f)) else 0)) := by
  rw [w64 (x := e + f) (by omega) (by omega), mx_dec (by omega) h2, mx_dec h0 (by omega), mx_dec h1 (by omega)]
  refine if_and_cong (rule_co c d e f) ?_ ?_
  · by_cases k : e = 0
    · right; rw [k]; exact zero_l c d
    · left; rw [if_neg (by omega), if_neg k, w64 (by omega) (by omega), show e - 1 + f = e + f - 1 by omega]
  · by_cases k : f = 0
    · right; rw [k]; exact zero_r c d
    · left; rw [if_neg (by omega), if_neg k, w64 (by omega) (by omega), show e + (f - 1) = e + f - 1 by omega]
theorem rule_one {t u : S51} {a : Int} (ha : 0 ≤ a ∧ a ≤ 2) (ht : E1 t) (hu : E1 u) (hs : t.f1 + u.f1 ≤ 100 ∧ t.f2 + u.f2 ≤ 100 ∧ t.f3 + u.f3 ≤ 100) (s : S51) :
    cong (cs O [impl_derive.tm (ml t u) a] s) (cs O [ml (impl_derive.tm t a) u] s + cs O [ml t (impl_derive.tm u a)] s) := by
  rw [one_cs, one_cs, one_cs]
  unfold E1 at ht hu
  have hc : a = 0 ∨ a = 1 ∨ a = 2 := by omega
  rcases hc with rfl | rfl | rfl
  · exact rule_gen (c := t.f0) (d := u.f0) (e := t.f1) (f := u.f1) (p := s.f1) (W := wrap64 (t.f2 + u.f2) = s.f2 ∧ wrap64 (t.f3 + u.f3) = s.f3) (by omega) (by omega) (by omega)
  · have h := rule_gen (c := t.f0) (d := u.f0) (e := t.f2) (f := u.f2) (p := s.f2) (W := wrap64 (t.f1 + u.f1) = s.f1 ∧ wrap64 (t.f3 + u.f3) = s.f3) (by omega) (by omega) (by omega)
    have sw : ∀ {x y z : Prop}, (x ∧ y ∧ z ↔ y ∧ x ∧ z) := fun {x y z} => ⟨fun h => ⟨h.2.1, h.1, h.2.2⟩, fun h => ⟨h.2.1, h.1, h.2.2⟩⟩
    rw [ifc sw, ifc (P := wrap64 (mx (wrap64 (t.f2 - 1)) 0 + u.f2) = s.f2 ∧ _ ∧ _) sw, ifc (P := wrap64 (t.f2 + mx (wrap64 (u.f2 - 1)) 0) = s.f2 ∧ _ ∧ _) sw] at h
    exact h
  · have h := rule_gen (c := t.f0) (d := u.f0) (e := t.f3) (f := u.f3) (p := s.f3) (W := wrap64 (t.f1 + u.f1) = s.f1 ∧ wrap64 (t.f2 + u.f2) = s.f2) (by omega) (by omega) (by omega)
    have sw : ∀ {x y z : Prop}, (x ∧ y ∧ z ↔ y ∧ z ∧ x) := fun {x y z} => ⟨fun h => ⟨h.2.1, h.2.2, h.1⟩, fun h => ⟨h.2.2, h.1, h.2.1⟩⟩
    rw [ifc sw, ifc (P := wrap64 (mx (wrap64 (t.f3 - 1)) 0 + u.f3) = s.f3 ∧ _ ∧ _) sw, ifc (P := wrap64 (t.f3 + mx (wrap64 (u.f3 - 1)) 0) = s.f3 ∧ _ ∧ _) sw] at h
    exact h
theorem dD_append (a : Int) (l r : List S51) : dD a (l ++ r) = dD a l ++ dD a r := by unfold dD; rw [List.map_append]
def Sm (l : List S51) : Prop := ∀ t ∈ l, 0 ≤ t.f1 ∧ t.f1 ≤ 50 ∧ 0 ≤ t.f2 ∧ t.f2 ≤ 50 ∧ 0 ≤ t.f3 ∧ t.f3 ≤ 50
theorem Sm.ex {l : List S51} (h : Sm l) : Ex l := fun t ht => by have := h t ht; omega
theorem Sm.tail {t : S51} {l : List S51} (h : Sm (t :: l)) : Sm l := fun u hu => h u (List.mem_cons_of_mem _ hu)
theorem cs_two (t : S51) (l : List S51) (s : S51) : cs O (t :: l) s = cs O [t] s + cs O l s := by rw [cs_cons, one_cs]; rfl
theorem rule_row {t : S51} {a : Int} (ha : 0 ≤ a ∧ a ≤ 2) (ht : 0 ≤ t.f1 ∧ t.f1 ≤ 50 ∧ 0 ≤ t.f2 ∧ t.f2 ≤ 50 ∧ 0 ≤ t.f3 ∧ t.f3 ≤ 50) (s : S51) : ∀ {q : List S51}, Sm q →
    cong (cs O (dD a (q.map (ml t))) s) (cs O (q.map (ml (impl_derive.tm t a))) s + cs O ((dD a q).map (ml t)) s)
  | [], _ => cong.refl _
  | u :: q, h => by
    have e : dD a ((u :: q).map (ml t)) = impl_derive.tm (ml t u) a :: dD a (q.map (ml t)) := rfl
    have e2 : (dD a (u :: q)).map (ml t) = ml t (impl_derive.tm u a) :: (dD a q).map (ml t) := rfl
    have hu := h u List.mem_cons_self
    rw [e, e2, List.map_cons, cs_two, cs_two _ (q.map _), cs_two _ ((dD a q).map _)]
    refine ((rule_one (s := s) ha (show E1 t by unfold E1; omega) (show E1 u by unfold E1; omega) ⟨by omega, by omega, by omega⟩).add (rule_row ha ht s h.tail)).trans (cong.of_eq ?_)
    omega
theorem rule_prods {a : Int} (ha : 0 ≤ a ∧ a ≤ 2) {q : List S51} (hq : Sm q) : ∀ {p : List S51}, Sm p → eqv (dD a (prods p q)) (prods (dD a p) q ++ prods p (dD a q))
  | [], _ => fun s => cong.refl _
  | t :: p, h => fun s => by
    have e : dD a (t :: p) = impl_derive.tm t a :: dD a p := rfl
    have ih := rule_prods ha hq h.tail s
    rw [prods_cons, dD_append, e, prods_cons, prods_cons, cs_append, cs_append, cs_append, cs_append]
    rw [cs_append] at ih
    refine ((rule_row ha (h t List.mem_cons_self) s hq).add ih).trans (cong.of_eq ?_)
    omega
end Go.Proofs.Ythanmlojikidbaa.Pure
