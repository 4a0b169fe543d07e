-- By wip/mk/drv.py
import Derived.Test.YtemjjknnelngcaaDoorQSystxtPDx0
import Derived.Test.YtemjjknnelngcaaDoorQSystxtPDx1
import Derived.Test.YtemjjknnelngcaaDoorQSystxtPDx2
import Derived.Test.YtemjjknnelngcaaDoorQSystxtPDx12
namespace Go.Proofs.YtemjjknnelngcaaDoor.PD
open Go.RowKit Go.Proofs.YtemjjknnelngcaaDoorW.PrintWords Go.Proofs.YtemjjknnelngcaaDoorW.PrintLast Go.Proofs.YtemjjknnelngcaaDoorW.PrintMore
attribute [local go_sem] max2_int min2_int max_two min_two max_three min_three max_four min_four
set_option linter.unusedVariables false
set_option linter.unusedSimpArgs false
/-! ### laws_toTermSS: function 6 -/
-- PROOF
namespace Kd
open Go.Proofs.YtemjjknnelngcaaDoorW.PrintWords.Kd
/-- A slice and what lies behind its elements. -/
def spl {α : Type} (e : Nat) (d : Kd α) (z : α) (b : Bool) : Kd (List α) where
  sz := 1
  E := e :: d.E
  K := fun w xs cs => ∃ A c, cs = [.slice A xs.length c] ∧ (flb z b xs).length ≤ c ∧ d.C w A (flb z b xs).length (flb z b xs)
  M := fun w base ok xs cs => ∃ A c, cs = [.slice A xs.length c] ∧ d.R e w base ok (.slice A (flb z b xs).length c) (flb z b xs)
  K_len := by
    rintro w x cs ⟨A, c, rfl, _⟩
    rfl
  K_one := by
    rintro w x cs ⟨A, c, rfl, _⟩ u hu
    rw [List.mem_singleton.1 hu]
    rfl
  K_below := by
    rintro w w1 x cs hb ⟨A, c, rfl, hl, hr⟩
    exact ⟨A, c, rfl, hl, C_below hr hb⟩
  K_of_M := by
    rintro w base ok x cs ⟨A, c, rfl, h⟩
    obtain ⟨_, hl, hr⟩ := R_reads' h
    exact ⟨A, c, rfl, hl, hr⟩
  M_mono := by
    rintro w base ok ok' x cs hok ⟨A, c, rfl, h⟩
    exact ⟨A, c, rfl, R_mono h hok⟩
  M_bound := by
    rintro w base ok x cs ⟨A, c, rfl, h⟩
    exact ⟨A, c, rfl, R_bound h⟩
  M_move := by
    rintro w w1 base ok x cs hm ⟨A, c, rfl, h⟩
    exact ⟨A, c, rfl, R_move h hm⟩
  M_lower := by
    rintro w base base' ok x cs hb ⟨A, c, rfl, h⟩
    exact ⟨A, c, rfl, R_lower h hb⟩
theorem spl_M {α : Type} {e : Nat} {d : Kd α} {z : α} {b : Bool} {w : World} {base : Nat} {ok : Nat → Prop} {xs : List α} {cs : List Value} (h : (spl e d z b).M w base ok xs cs) : (slice e d).M w base ok xs cs := by
  obtain ⟨A, c, rfl, h⟩ := h
  have hl : xs.length ≤ (flb z b xs).length := by unfold flb; rw [List.length_append]; omega
  have h2 := R_take (m := xs.length) h hl
  refine ⟨_, rfl, ?_⟩
  have : (flb z b xs).take xs.length = xs := by unfold flb; rw [List.take_left']; rfl
  rwa [this] at h2
theorem spl_K {α : Type} {e : Nat} {d : Kd α} {z : α} {b : Bool} {w : World} {xs : List α} {cs : List Value} (h : (spl e d z b).K w xs cs) : (slice e d).K w xs cs := by
  obtain ⟨A, c, rfl, h1, h⟩ := h
  have hl : xs.length ≤ (flb z b xs).length := by unfold flb; rw [List.length_append]; omega
  have h2 := C_take (m := xs.length) h hl
  have : (flb z b xs).take xs.length = xs := by unfold flb; rw [List.take_left']; rfl
  rw [this] at h2
  exact ⟨A, c, rfl, by omega, h2⟩
/-- Of one row some are with what lies behind them, some are not. -/
def spq {α : Type} (e : Nat) (d : Kd α) (z : α) (b : Bool) : Kd (List α × Bool) where
  sz := 1
  E := e :: d.E
  K := fun w x cs => if x.2 = true then (spl e d z b).K w x.1 cs else (slice e d).K w x.1 cs
  M := fun w base ok x cs => if x.2 = true then (spl e d z b).M w base ok x.1 cs else (slice e d).M w base ok x.1 cs
  K_len := by
    intro w x cs h
    by_cases c : x.2 = true
    · rw [if_pos c] at h; exact (spl e d z b).K_len h
    · rw [if_neg c] at h; exact (slice e d).K_len h
  K_one := by
    intro w x cs h
    by_cases c : x.2 = true
    · rw [if_pos c] at h; exact (spl e d z b).K_one h
    · rw [if_neg c] at h; exact (slice e d).K_one h
  K_below := by
    intro w w1 x cs hb h
    by_cases c : x.2 = true
    · rw [if_pos c] at h ⊢; exact (spl e d z b).K_below hb h
    · rw [if_neg c] at h ⊢; exact (slice e d).K_below hb h
  K_of_M := by
    intro w base ok x cs h
    by_cases c : x.2 = true
    · rw [if_pos c] at h ⊢; exact (spl e d z b).K_of_M h
    · rw [if_neg c] at h ⊢; exact (slice e d).K_of_M h
  M_mono := by
    intro w base ok ok' x cs hok h
    by_cases c : x.2 = true
    · rw [if_pos c] at h ⊢; exact (spl e d z b).M_mono hok h
    · rw [if_neg c] at h ⊢; exact (slice e d).M_mono hok h
  M_bound := by
    intro w base ok x cs h
    by_cases c : x.2 = true
    · rw [if_pos c] at h ⊢; exact (spl e d z b).M_bound h
    · rw [if_neg c] at h ⊢; exact (slice e d).M_bound h
  M_move := by
    intro w w1 base ok x cs hm h
    by_cases c : x.2 = true
    · rw [if_pos c] at h ⊢; exact (spl e d z b).M_move hm h
    · rw [if_neg c] at h ⊢; exact (slice e d).M_move hm h
  M_lower := by
    intro w base base' ok x cs hb h
    by_cases c : x.2 = true
    · rw [if_pos c] at h ⊢; exact (spl e d z b).M_lower hb h
    · rw [if_neg c] at h ⊢; exact (slice e d).M_lower hb h
theorem spq_M {α : Type} {e : Nat} {d : Kd α} {z : α} {b : Bool} {w : World} {base : Nat} {ok : Nat → Prop} {x : List α × Bool} {cs : List Value} (h : (spq e d z b).M w base ok x cs) : (slice e d).M w base ok x.1 cs := by
  have h' : if x.2 = true then (spl e d z b).M w base ok x.1 cs else (slice e d).M w base ok x.1 cs := h
  split at h'
  · exact spl_M h'
  · exact h'
theorem spq_K {α : Type} {e : Nat} {d : Kd α} {z : α} {b : Bool} {w : World} {x : List α × Bool} {cs : List Value} (h : (spq e d z b).K w x cs) : (slice e d).K w x.1 cs := by
  have h' : if x.2 = true then (spl e d z b).K w x.1 cs else (slice e d).K w x.1 cs := h
  split at h'
  · exact spl_K h'
  · exact h'
theorem C_spq {α : Type} {e : Nat} {d : Kd α} {z : α} {b : Bool} {w : World} {n : Nat} {A : Option Addr} {ys : List (List α × Bool)} (h : (spq e d z b).C w A n ys) : (slice e d).C w A n (ys.map Prod.fst) := by
  refine ⟨by rw [List.length_map]; exact h.1, h.2.1, fun hn => ?_⟩
  obtain ⟨ad, ha, hc⟩ := h.2.2 hn
  refine ⟨ad, ha, fun j p hj => ?_⟩
  rw [List.getElem?_map] at hj
  obtain ⟨q, hq, rfl⟩ := Option.map_eq_some_iff.1 hj
  obtain ⟨cs, h1, h2, h3⟩ := hc j q hq
  exact ⟨cs, h1, spq_K h2, h3⟩
theorem spq_nil {α : Type} (e : Nat) (d : Kd α) (z : α) (b : Bool) (w : World) (base : Nat) (ok : Nat → Prop) : (spq e d z b).M w base ok ([], false) [.slice none 0 0] := by
  show if (false = true) then (spl e d z b).M w base ok [] [.slice none 0 0] else (slice e d).M w base ok [] [.slice none 0 0]
  rw [if_neg (by decide)]
  exact ⟨_, rfl, R_nil _ _ _ _ _⟩
theorem C_nil {α : Type} (d : Kd α) (w : World) : d.C w none 0 [] := ⟨rfl, by omega, fun h => absurd h (by omega)⟩
theorem spq_row {α : Type} {e base n : Nat} {d : Kd α} {z : α} {b : Bool} {ok : Nat → Prop} {w : World} {A : Option Addr} {c : Nat} {xs : List α} (h : d.R e w base ok (.slice A n c) (flb z b xs)) : (spq e d z b).M w base ok (xs, true) [.slice A xs.length c] := by
  show if (true = true) then (spl e d z b).M w base ok xs [.slice A xs.length c] else (slice e d).M w base ok xs [.slice A xs.length c]
  rw [if_pos rfl]
  obtain ⟨hn, _, _⟩ := R_reads' h
  subst hn
  exact ⟨A, c, rfl, h⟩
theorem spq_row0 {α : Type} {e base : Nat} {d : Kd α} {z : α} {b : Bool} {ok : Nat → Prop} {w : World} {v : Value} {xs : List α} (h : d.R e w base ok v xs) : (spq e d z b).M w base ok (xs, false) [v] := by
  show if (false = true) then (spl e d z b).M w base ok xs [v] else (slice e d).M w base ok xs [v]
  rw [if_neg (by decide)]
  exact ⟨v, rfl, h⟩
/-- A laid list of lists, with what lies behind. -/
def fulq {α : Type} (z : α) (b : Bool) (xs : List (List α)) : List (List α × Bool) := xs.map (fun x => (x, true)) ++ (if b = true ∧ xs = [] then [] else List.replicate (room xs.length) ([z], false))
theorem fulq_len {α : Type} (z : α) (xs : List (List α)) : (fulq z false xs).length = xs.length + room xs.length := by unfold fulq; rw [if_neg (by simp)]; simp
theorem fulq_take {α : Type} (z : α) (b : Bool) (xs : List (List α)) : ((fulq z b xs).take xs.length).map Prod.fst = xs := by
  unfold fulq
  rw [List.take_left' (by rw [List.length_map]), List.map_map]
  conv => rhs; rw [← List.map_id xs]
  exact List.map_congr_left fun _ _ => rfl
def CpQ {β : Type} (n : Nat) (x : List (β × Bool)) (i : Int) : Prop := 0 ≤ i ∧ i ≤ n ∧ x.length = n + room n ∧ x.length ≤ 35184372088832 ∧ ∀ j : Nat, (j : Int) < i → ∃ p, x[j]? = some (p, true)
def FlQ {α : Type} (z : α) (n : Nat) (x : List (List α × Bool)) (i : Int) : Prop := (n : Int) ≤ i ∧ i ≤ x.length ∧ x.length = n + room n ∧ x.length ≤ 35184372088832 ∧ (∀ j : Nat, j < n → ∃ p, x[j]? = some (p, true)) ∧ ∀ j : Nat, n ≤ j → (j : Int) < i → x[j]? = some ([z], false)
theorem CpQ.start {β : Type} {n : Nat} {x : List (β × Bool)} {z : β × Bool} {t j : Int} (hx : x = List.replicate j.toNat z) (hj : wrap64 ((n : Int) + t) = j) (ht : t = (room n : Int)) (hm : j.toNat ≤ 11728124029610) (h0 : 0 ≤ j) (hl : n ≤ 9223372036854775807) : CpQ n x 0 := by
  subst ht
  have hr : room n ≤ n + 1 := by unfold room; split <;> (try split) <;> omega
  have : j = (n : Int) + (room n : Int) := by
    rw [← hj] at h0 hm ⊢
    unfold wrap64 at *
    omega
  refine ⟨by omega, by omega, ?_, ?_, fun q hq => by omega⟩
  · rw [hx, List.length_replicate]; omega
  · rw [hx, List.length_replicate]; omega
theorem CpQ.step {β : Type} {n : Nat} {x y : List (β × Bool)} {i : Int} {p : β} (h : CpQ n x i) (hi : i < n) (hy : y = x.set i.toNat (p, true)) : CpQ n y (wrap64 (i + 1)) := by
  obtain ⟨h0, h1, h2, h3, h4⟩ := h
  have hw : wrap64 (i + 1) = i + 1 := by unfold wrap64; omega
  rw [hw]
  subst hy
  refine ⟨by omega, by omega, by rw [List.length_set]; omega, by rw [List.length_set]; omega, fun j hj => ?_⟩
  by_cases e : j = i.toNat
  · subst e; exact ⟨p, by rw [List.getElem?_set_self (by omega)]⟩
  · obtain ⟨q, hq⟩ := h4 j (by omega)
    exact ⟨q, by rw [List.getElem?_set_ne (fun e2 => e e2.symm)]; exact hq⟩
theorem CpQ.fl {α : Type} {z : α} {n : Nat} {x : List (List α × Bool)} {i : Int} (h : CpQ n x i) (hi : ¬ i < n) : FlQ z n x n := by
  obtain ⟨h0, h1, h2, h3, h4⟩ := h
  exact ⟨by omega, by omega, h2, h3, fun j hj => h4 j (by omega), fun j h5 h6 => by omega⟩
theorem FlQ.step {α : Type} {z : α} {n : Nat} {x y : List (List α × Bool)} {i : Int} (h : FlQ z n x i) (hi : i < x.length) (hy : y = x.set i.toNat ([z], false)) : FlQ z n y (wrap64 (i + 1)) := by
  obtain ⟨h0, h1, h2, h3, h4, h5⟩ := h
  have hw : wrap64 (i + 1) = i + 1 := by unfold wrap64; omega
  rw [hw]
  subst hy
  refine ⟨by omega, by rw [List.length_set]; omega, by rw [List.length_set]; omega, by rw [List.length_set]; omega, fun j hj => ?_, fun j h6 h7 => ?_⟩
  · obtain ⟨q, hq⟩ := h4 j hj
    exact ⟨q, by rw [List.getElem?_set_ne (by omega)]; exact hq⟩
  · by_cases e : j = i.toNat
    · subst e; rw [List.getElem?_set_self (by omega)]
    · rw [List.getElem?_set_ne (fun e2 => e e2.symm)]; exact h5 j h6 (by omega)
theorem FlQ.done {α : Type} {z : α} {n : Nat} {x : List (List α × Bool)} {i : Int} {a1 : Bool} {r : List (List α)} (h : FlQ z n x i) (hi : ¬ i < x.length) (hr : r = (x.map Prod.fst).take ((n : Int) : Int).toNat) (hb : ¬ (a1 = true ∧ n = 0)) : x = fulq z a1 r := by
  obtain ⟨h0, h1, h2, h3, h4, h5⟩ := h
  have hl : r.length = n := by rw [hr, List.length_take, List.length_map]; omega
  have hne : ¬ (a1 = true ∧ r = []) := fun e => hb ⟨e.1, by rw [← hl, e.2]; rfl⟩
  unfold fulq
  rw [if_neg hne, hl]
  apply List.ext_getElem?
  intro j
  by_cases c : j < n
  · obtain ⟨p, hp⟩ := h4 j c
    rw [List.getElem?_append_left (by rw [List.length_map]; omega), List.getElem?_map, hr, hp, List.getElem?_take_of_lt (by omega), List.getElem?_map, hp]
    rfl
  · rw [List.getElem?_append_right (by rw [List.length_map]; omega), List.length_map, hl]
    by_cases c2 : j < x.length
    · rw [h5 j (by omega) (by omega), List.getElem?_replicate, if_pos (by omega)]
    · rw [List.getElem?_eq_none (by omega), List.getElem?_replicate, if_neg (by omega)]
end Kd
theorem laws_toTermSS.info : (Tryd.prog.info? 35).map (fun i => (i.zero, i.size, i.bytes)) = some (some (.slice none 0 0), 1, 24) := by kernel_rfl
theorem laws_toTermSS.at_ {w : World} {A : Option Addr} {n : Nat} {xs : List (List S46)} (h : Kd.C (Kd.slice 46 k46) w A n xs) (i : Int) (h0 : 0 ≤ i) (h1 : i < n) : ∃ ad A0 c0, A = some ad ∧ w.cell? (ad.add i.toNat) = some (.slice A0 (laws_toTermSS.rd xs i).length c0) ∧ (laws_toTermSS.rd xs i).length ≤ c0 ∧ k46.C w A0 (laws_toTermSS.rd xs i).length (laws_toTermSS.rd xs i) := by
  obtain ⟨ad, c, e, _, hK, hc0⟩ := Kd.C_get h ([] : List S46) i h0 h1
  have hc : ∀ j u, c[j]? = some u → w.cell? (ad.add (i.toNat * 1 + j)) = some u := hc0
  obtain ⟨A0, c0, rfl, l0, g0⟩ := hK
  exact ⟨ad, A0, c0, e, by have hq := hc 0 _ rfl; rwa [Nat.mul_one, Nat.add_zero] at hq, l0, g0⟩
set_option maxHeartbeats 8000000 in
set_option maxRecDepth 100000 in
theorem laws_toTermSS.calls (k : Nat) (A0 : Option Addr) (c0 : Nat) (l0 : List (List (S46))) (a1 : Bool) (r : List (List (S38))) (w : World) (hr0 : Kd.C (Kd.slice 46 k46) w A0 l0.length l0) (hc0 : l0.length ≤ c0) (h : laws_toTermSS.f k l0 a1 = some r) :
  Calls Tryd.prog 6 #[.slice A0 l0.length c0, .bool a1] w fun e w' => ∃ (A : Option Addr) (c : Nat), e = .returned (.slice A r.length c) ∧ Kd.C (Kd.spq 38 k38 filk38 a1) w' A (Kd.fulq filk38 a1 r).length (Kd.fulq filk38 a1 r) ∧ (Kd.fulq filk38 a1 r).length ≤ c ∧ Below w.heap.size w w' := by
 have HR0 := Aside0.mk hr0
 have HC0 := Aside0.mk hc0
 clear hr0 hc0
 have HB := Aside0.mk (Below.refl w.heap.size w)
 have H : (if a1 = true then (laws_toTermSS.j0 k l0 a1 ((l0.length : Int) == 0)) else (laws_toTermSS.j0 k l0 a1 false)) = some r := h
 clear h
 have HC3 := Aside0.mk H
 clear H
 go_enter Tryd.func6, Tryd.ntmps6
 go_upto_region 1 with (fail)
 go_cut [13] (fun v13 wc => ∃ (kq : Nat) (x13_2 : Bool), v13 = .bool x13_2 ∧ Aside0 (laws_toTermSS.j0 kq l0 a1 x13_2 = some r) ∧ Aside0 (kq ≤ k) ∧ Aside0 (Below w.heap.size w wc) ∧ Aside0 (x13_2 = (a1 && decide (l0.length = 0))))
 case first =>
  have H := HC3.out
  clear HC3
  by_cases c4 : a1 = true
  ·
   subst c4
   have H1 : (laws_toTermSS.j0 k l0 true ((l0.length : Int) == 0)) = some r := by rw [if_pos rfl] at H; exact H
   clear H
   have H := H1
   clear H1
   have H' := Aside0.mk H
   clear H
   go_wp2
   go_meet
   case rel => exact ⟨_, (((l0.length : Int) == 0)), (by first | rfl | (simp; done) | (simp [*]; done)), H', ⟨by first | omega | exact Nat.le_refl _⟩, ⟨(zb0 HB)⟩, ⟨by cases l0 <;> simp <;> omega⟩⟩
  ·
   replace c4 := Bool.eq_false_iff.mpr c4
   subst c4
   have H1 : (laws_toTermSS.j0 k l0 false false) = some r := by rw [if_neg (show ¬ (false = true) by decide)] at H; exact H
   clear H
   have H := H1
   clear H1
   have H' := Aside0.mk H
   clear H
   go_wp2
   go_meet
   case rel => exact ⟨_, (false), (by first | rfl | (simp; done) | (simp [*]; done)), H', ⟨by first | omega | exact Nat.le_refl _⟩, ⟨(zb0 HB)⟩, ⟨rfl⟩⟩
 case rest =>
  clear HC3
  try clear p2
  try clear c4
  obtain ⟨kq, x13_2, rfl, HA, HJ2, HB, HFA⟩ := hcut
  cases kq with
  | zero => exact absurd HA.out (by simp [laws_toTermSS.j0])
  | succ kj2 =>
   have H := HA.out
   clear HA
   simp only [laws_toTermSS.j0] at H
   by_cases c5 : x13_2 = true
   ·
    subst c5
    have H1 : (some ([] : List (List (S38)))) = some r := by rw [if_pos rfl] at H; exact H
    clear H
    have H := H1
    clear H1
    obtain rfl := Option.some.inj H
    go_wp2
    go_ret
    have h1_ := (Bool.and_eq_true_iff.mp HFA.out.symm).1
    subst h1_
    exact ⟨none, 0, by first | rfl | (simp; done) | (simp [*]; done), Kd.C_nil _ _, Nat.le_refl _, (zb0 HB)⟩
   ·
    replace c5 := Bool.eq_false_iff.mpr c5
    subst c5
    have H1 : ((laws_roomBehind.f (l0.length : Int)).bind fun t150 => (if 0 ≤ (wrap64 ((l0.length : Int) + t150)) then (if (wrap64 ((l0.length : Int) + t150) : Int).toNat ≤ 11728124029610 then (laws_toTermSS.l0 kj2 l0 a1 (List.replicate (wrap64 ((l0.length : Int) + t150) : Int).toNat []) 0) else (none)) else (none))) = some r := by rw [if_neg (show ¬ (false = true) by decide)] at H; exact H
    clear H
    have H := H1
    clear H1
    replace H := Option.bind_eq_some_iff.mp H
    obtain ⟨t150, A60, H⟩ := H
    replace H : (if 0 ≤ (wrap64 ((l0.length : Int) + t150)) then (if (wrap64 ((l0.length : Int) + t150) : Int).toNat ≤ 11728124029610 then (laws_toTermSS.l0 kj2 l0 a1 (List.replicate (wrap64 ((l0.length : Int) + t150) : Int).toNat []) 0) else (none)) else (none)) = some r := H
    have A6 := Aside0.mk A60
    clear A60
    obtain ⟨ji7, hji7⟩ : ∃ j_ : Int, (wrap64 ((l0.length : Int) + t150)) = j_ := ⟨_, rfl⟩
    replace H : (if 0 ≤ (ji7) then (if (ji7 : Int).toNat ≤ 11728124029610 then (laws_toTermSS.l0 kj2 l0 a1 (List.replicate (ji7 : Int).toNat []) 0) else (none)) else (none)) = some r := by first | (rw [hji7] at H; exact H) | (simp only [hji7] at H ⊢; exact H)
    (try rw [hji7] at A6)
    have hji7w : (IntKind.i64.wrap ((l0.length : Int) + t150)) = ji7 := (i64_w _).trans hji7
    by_cases c8 : 0 ≤ (ji7)
    ·
     rw [if_pos c8] at H
     have c8b0 := eq_true c8
     have c8b1 : decide (0 ≤ (ji7)) = true := decide_eq_true c8
     clear c8
     by_cases c9 : (ji7 : Int).toNat ≤ 11728124029610
     ·
      rw [if_pos c9] at H
      have c9b0 := eq_true c9
      have c9b1 : decide ((ji7 : Int).toNat ≤ 11728124029610) = true := decide_eq_true c9
      clear c9
      obtain ⟨y151, hy151⟩ : ∃ y_ : List (List (S38) × Bool), y_ = (List.replicate (ji7 : Int).toNat ([], false)) := ⟨_, rfl⟩
      replace H : (laws_toTermSS.l0 kj2 l0 a1 (y151.map Prod.fst) 0) = some r := by rw [hy151, List.map_replicate]; exact H
      have Ny151 := Aside0.mk hy151
      clear hy151
      have H' := Aside0.mk H
      clear H
      go_wp2_with (first | ((with_reducible refine gate_callee (f := 12) rfl ?_); refine goesL_ (some 18) rfl rfl Tryd.func12 (by kernel_rfl) rfl #[.int .i64 (l0.length : Int)] rfl zq6 ?_; (with_reducible refine (laws_roomBehind.calls (l0.length : Int) t150 _ A6.out).mono ?_); rintro e w' ⟨rfl, ⟨nd, rfl⟩⟩; refine ⟨_, rfl, ?_⟩) | ((with_reducible refine gate_dst (N := 20) rfl ?_); (try (refine gate_guard (by rfl) ?_; dsimp only)); refine Kd.S_make (Kd.spq 38 k38 filk38 a1) _ 35 rfl (N := 20) rfl 26 _ _ rfl ji7 rfl rfl Tryd.underlying26 (.slice none 0 0) 24 laws_toTermSS.info rfl Nat.zero_lt_one (by omega) ([], false) (ok := fun _ => True) (okp := fun _ => True) (Kd.spq_nil _ _ _ _ _ _ _) (fun _ hk => hk) trivial (of_decide_eq_true (by first | (with_reducible assumption) | assumption)) (Nat.le_trans (Nat.mul_le_mul_right _ (of_decide_eq_true (by first | (with_reducible assumption) | assumption) : ji7.toNat ≤ 11728124029610)) (by omega)) (Below.refl _ _) (Nat.le_refl _) ?_; intro v152 w10 ho11 hb hg_ hnew_; clear hg_ hnew_; (first | rw [← Ny151.out] at ho11 | (simp only [Int.reduceToNat] at ho11; rw [← Ny151.out] at ho11)); have HO153 := Aside0.mk (Kd.S_lower ho11 (below_size (zb0 HB))); replace HB := Aside0.mk (below_step (zb0 HB) hb); clear hb ho11))
      go_loopg [6] kj2 (fun kq v6 w' => ∃ (x5_2 : List (List (S38) × Bool)) (x6_2 : Int), v6 = .int .i64 x6_2 ∧ Aside0 (laws_toTermSS.l0 kq l0 a1 (x5_2.map Prod.fst) x6_2 = some r) ∧ Aside0 (kq ≤ kj2) ∧ Aside0 (Kd.S (Kd.spq 38 k38 filk38 a1) 35 w' w.heap.size (fun _ => True) v152 x5_2) ∧ Aside0 (Below w.heap.size w w') ∧ Aside0 (Kd.CpQ l0.length x5_2 x6_2))
      case atStart => exact ⟨(y151), (0), (by first | rfl | (simp; done) | (simp [*]; done)), H', ⟨Nat.le_refl _⟩, ⟨by (with_reducible repeat (first | apply Kd.S_alloc | apply Kd.S_drewN | apply Kd.S_drew)); exact HO153.out⟩, ⟨(zb0 HB)⟩, ⟨Kd.CpQ.start Ny151.out hji7 (by have h_ := A6.out; rw [laws_roomBehind.at_] at h_; exact (Option.some.inj h_).symm) (of_decide_eq_true c9b1) (of_decide_eq_true c8b1) HR0.out.2.1⟩⟩
      case round =>
       clear H'
       try clear c1
       try clear p2
       try clear c4
       try clear c5
       try clear c6
       try clear p6
       try clear c8
       try clear c8b0
       try clear c8b1
       try clear c9
       try clear c9b0
       try clear c9b1
       try clear c11
       try clear p2
       obtain ⟨x5_2, x6_2, rfl, HA, HK2, HO_5, HB, HCF⟩ := hrel
       cases gk with
       | zero => exact absurd HA.out (by simp [laws_toTermSS.l0])
       | succ k2 =>
        have H := HA.out
        clear HA
        simp only [laws_toTermSS.l0, List.length_map] at H
        by_cases c12 : x6_2 < (l0.length : Int)
        ·
         rw [if_pos c12] at H
         have c12b0 : decide (x6_2 < (l0.length : Int)) = true := decide_eq_true c12
         clear c12
         by_cases c13 : 0 ≤ x6_2
         ·
          rw [if_pos c13] at H
          have c13b0 : decide (0 ≤ x6_2) = true := decide_eq_true c13
          clear c13
          replace H := Option.bind_eq_some_iff.mp H
          obtain ⟨t155, A140, H⟩ := H
          replace H : (if x6_2 < (x5_2.length : Int) then (laws_toTermSS.l0 k2 l0 a1 ((x5_2.map Prod.fst).set (x6_2 : Int).toNat t155) (wrap64 (x6_2 + 1))) else (none)) = some r := H
          have A14 := Aside0.mk A140
          clear A140
          by_cases c15 : x6_2 < (x5_2.length : Int)
          ·
           rw [if_pos c15] at H
           have c15b0 : decide (x6_2 < (x5_2.length : Int)) = true := decide_eq_true c15
           clear c15
           obtain ⟨y158, hy158⟩ : ∃ y_ : List (List (S38) × Bool), y_ = (x5_2.set (x6_2 : Int).toNat (t155, true)) := ⟨_, rfl⟩
           replace H : (laws_toTermSS.l0 k2 l0 a1 (y158.map Prod.fst) (wrap64 (x6_2 + 1))) = some r := by rw [hy158, List.map_set]; exact H
           have Ny158 := Aside0.mk hy158
           clear hy158
           have H' := Aside0.mk H
           clear H
           have p154 : 0 ≤ (x6_2 : Int) := of_decide_eq_true (by first | (with_reducible assumption) | assumption)
           have q154 : x6_2 < (l0.length : Int) := of_decide_eq_true (by first | (with_reducible assumption) | assumption)
           obtain ⟨ad154, A154_0, c154_0, e154, hx154_0, hl154_0, hi154_0⟩ := laws_toTermSS.at_ HR0.out x6_2 p154 q154
           cases e154
           replace hx154_0 := (HB.out.cell (World.block_lt_of_cell? w _ hx154_0)).trans hx154_0
           have HR154_0 := Aside0.mk hi154_0
           have HC154_0 := Aside0.mk hl154_0
           clear hi154_0 hl154_0
           replace p154 := eq_true p154
           replace q154 := eq_true q154
           go_wp2_with (first | ((with_reducible refine gate_callee (f := 13) rfl ?_); refine goesL_ (some 34) rfl rfl Tryd.func13 (by kernel_rfl) rfl #[.slice A154_0 (laws_toTermSS.rd l0 x6_2).length c154_0, .bool a1] rfl zq6 ?_; (with_reducible refine (laws_toTermS.calls k2 _ _ (laws_toTermSS.rd l0 x6_2) a1 t155 _ ?side1 ?side2 A14.out).mono ?_); (case side1 => repeat (first | exact (Kd.C_below HR154_0.out HB.out) | (with_reducible refine Kd.C_alloc ?_ _) | (with_reducible refine Kd.C_drewN ?_ _) | (with_reducible refine Kd.C_drew ?_))); (case side2 => exact HC154_0.out); rintro e w17 ⟨v156, rfl, ho0, hb, ho0F⟩; obtain ⟨A_v156, c_v156, rfl⟩ := Kd.R_slice ho0; refine ⟨_, rfl, ?_⟩; have HO157 := Aside0.mk (Kd.R_lower ho0F (below_size (zb0 HB))); replace HO_5 := Aside0.mk (Kd.S_elder' (by (with_reducible repeat (first | apply Kd.S_alloc | apply Kd.S_drewN | apply Kd.S_drew)); exact HO_5.out) (Kd.R_base ho0F) hb); replace HB := Aside0.mk (below_step (zb0 HB) hb); (try clear hb); (try clear hb2); (try clear hk); (try clear hi); (try clear ho0); (try clear ho0F); have p16 : 0 ≤ (x6_2 : Int) := of_decide_eq_true (by first | (with_reducible assumption) | assumption); have q16 : (x6_2 : Int) < ((x5_2.length : Int) : Int) := of_decide_eq_true (by first | (with_reducible assumption) | assumption); obtain ⟨go16, co16, eo16, gb16, gl16, cl16, HG16⟩ := Kd.S_form HO_5.out (by omega); (first | cases eo16 | (injection eo16 with ea_ en_ ec_; (first | subst ea_ | (injection ea_ with ea_; subst ea_)); subst ec_; clear en_)); have GB16 := Aside0.mk gb16; have GG16 := Aside0.mk HG16; clear gb16 gl16 HG16; obtain ⟨_, ce16, hcl16, hM16, hcc16, hfr16, _, _⟩ := Kd.S_elem HO_5.out ([], false) (x6_2 : Int) p16 q16; obtain ⟨ve16_0, rfl, ge16_0⟩ := Kd.spq_M hM16; have hx16_0 := hcc16 0 _ rfl; have hf16_0 := hfr16 0; (try simp only [show ((Kd.spq 38 k38 filk38 a1)).sz = 1 from rfl, Nat.mul_one, Nat.add_zero] at hx16_0); (try simp only [show ((Kd.spq 38 k38 filk38 a1)).sz = 1 from rfl, Nat.mul_one, Nat.add_zero] at hf16_0); clear hcl16 hcc16 hfr16 hM16; replace p16 := eq_true p16; replace q16 := eq_true q16; have n_ := Aside0.mk (Kd.S_mono (ok' := (fun k_ => some k_ ≠ (Value.slice A_v156 (flb filk38 a1 t155).length c_v156).ownBlock)) HO_5.out (fun k_ hk => hk.2)); clear HO_5; have HO_5 := n_; clear n_; have HX18 := Aside0.mk (show Kd.S (Kd.spq 38 k38 filk38 a1) 35 w17 w.heap.size (fun k_ => ((fun _ => True)) k_ ∧ ¬ ((fun k_ => some k_ = (Value.slice A_v156 (flb filk38 a1 t155).length c_v156).ownBlock)) k_) (.slice (some ⟨go16, 0, none⟩) x5_2.length co16) x5_2 from (by (with_reducible repeat (first | apply Kd.S_alloc | apply Kd.S_drewN | apply Kd.S_drew)); exact Kd.S_mono HO_5.out (fun k_ hk => ⟨trivial, fun e_ => hk e_⟩))); obtain ⟨oki18, ce18, hcl18, hM18, hcc18, hfr18, hoki18, hH18⟩ := Kd.S_elem HX18.out ([], false) (x6_2 : Int) (of_decide_eq_true (by first | (with_reducible assumption) | assumption)) (by have h_ : (x6_2 : Int) < ((x5_2.length : Int) : Int) := of_decide_eq_true (by first | (with_reducible assumption) | assumption); first | exact h_ | (have e_ := (Kd.S_reads' HO_5.out).1; omega) | simpa using h_); obtain ⟨ve18_0, rfl, ge18_0⟩ := Kd.spq_M hM18; have HP18 := Kd.S_seg hH18 (of_decide_eq_true (by first | (with_reducible assumption) | assumption)) (by have h_ : (x6_2 : Int) < ((x5_2.length : Int) : Int) := of_decide_eq_true (by first | (with_reducible assumption) | assumption); first | exact h_ | (have e_ := (Kd.S_reads' HO_5.out).1; omega) | simpa using h_) (seg := [.slice A_v156 t155.length c_v156]) (j := 0) (show 1 ≤ 1 from by decide) (x' := (t155, true)) (Kd.spq_row (Kd.R_mono (Kd.R_tight rfl (Kd.R_mono (ok' := fun k_ => ((fun _ => True)) k_ ∧ k_ ≠ go16) (Kd.R_apart' (HO157.out) (Kd.S_typed HO_5.out) (by decide)) (fun k_ hk => ⟨trivial, fun e_ => (hk.2) (by rw [e_]; rfl)⟩))) (fun _ h_ => Or.inr (h_)))) (fun _ hk => hk) (fun k_ hk_ => ((Kd.R_mono (ok' := fun k_ => ((fun _ => True)) k_ ∧ k_ ≠ go16) (Kd.R_apart' (HO157.out) (Kd.S_typed HO_5.out) (by decide)) (fun k_ hk => ⟨trivial, fun e_ => (hk.2) (by rw [e_]; rfl)⟩))).1 k_ hk_.symm); have hx18_0 := hcc18 0 _ rfl; (try simp only [show ((Kd.spq 38 k38 filk38 a1)).sz = 1 from rfl, Nat.mul_one, Nat.add_zero] at hx18_0); have hf18_0 := hfr18 0; (try simp only [show ((Kd.spq 38 k38 filk38 a1)).sz = 1 from rfl, Nat.mul_one, Nat.add_zero] at hf18_0); clear hcl18 hcc18 hfr18 hM18 hoki18 hH18; (try simp only [show ((Kd.spq 38 k38 filk38 a1)).sz = 1 from rfl, Nat.mul_one, Nat.add_zero] at HP18)) | ((with_reducible refine gate_store (t := 35) (p := 35) rfl ?_); refine store_event (t := 35) (p := 35) (v := ?vo_w19) (w1 := (w17.setCell ⟨go16, (x6_2 : Int).toNat, none⟩ (.slice A_v156 t155.length c_v156))) ?hg ?ho ?hn ?hr ?_; (case ho => rfl); (case hg => rfl); (case hn => rfl); (case hr => first | (go_simp; done) | (go_simp; rfl)); intro w19 hw; have hg : w17.grownBy w19 (some go16) := (by rw [hw]; exact HP18.2); have hp_ : Kd.S (Kd.spq 38 k38 filk38 a1) 35 w19 w.heap.size (fun _ => True) (.slice (some ⟨go16, 0, none⟩) x5_2.length co16) y158 := (by rw [hw, Ny158.out]; exact HP18.1); clear HP18; replace HO_5 := Aside0.mk (hp_); replace HB := Aside0.mk ((by rw [hw]; exact below_set (HB.out) GB16.out : Below w.heap.size w w19)); clear HO157; clear hg hw hp_))
           go_roundg k2
           case measure => have := HJ2.out; have := HK2.out; omega
           case rel => exact ⟨(y158), (wrap64 (x6_2 + 1)), (by first | rfl | (simp; done) | (simp [*]; done)), H', ⟨by have := HJ2.out; have := HK2.out; omega⟩, ⟨by (with_reducible repeat (first | apply Kd.S_alloc | apply Kd.S_drewN | apply Kd.S_drew)); exact HO_5.out⟩, ⟨(zb0 HB)⟩, ⟨Kd.CpQ.step HCF.out (of_decide_eq_true (by first | (with_reducible assumption) | assumption)) Ny158.out⟩⟩
          ·
           rw [if_neg c15] at H
           exact absurd H (by simp)
         ·
          rw [if_neg c13] at H
          exact absurd H (by simp)
        ·
         rw [if_neg c12] at H
         have c12b0 : decide (x6_2 < (l0.length : Int)) = false := decide_eq_false c12
         clear c12
         have H' := Aside0.mk H
         clear H
         go_wp2
         go_loopg [7] k2 (fun kq v7 w' => ∃ (x5_3 : List (List (S38) × Bool)) (x7_3 : Int), v7 = .int .i64 x7_3 ∧ Aside0 (laws_toTermSS.l1 kq l0 (x5_3.map Prod.fst) x7_3 = some r) ∧ Aside0 (kq ≤ k2) ∧ Aside0 (Kd.S (Kd.spq 38 k38 filk38 a1) 35 w' w.heap.size (fun _ => True) v152 x5_3) ∧ Aside0 (Below w.heap.size w w') ∧ Aside0 (Kd.FlQ filk38 l0.length x5_3 x7_3))
         case atStart => exact ⟨(x5_2), ((l0.length : Int)), (by first | rfl | (simp; done) | (simp [*]; done)), H', ⟨Nat.le_refl _⟩, ⟨by (with_reducible repeat (first | apply Kd.S_alloc | apply Kd.S_drewN | apply Kd.S_drew)); exact HO_5.out⟩, ⟨(zb0 HB)⟩, ⟨Kd.CpQ.fl HCF.out (of_decide_eq_false c12b0)⟩⟩
         case round =>
          clear H'
          try clear c1
          try clear p1
          try clear q1
          try clear hx1
          try clear p2
          try clear c4
          try clear c5
          try clear c6
          try clear p6
          try clear c8
          try clear c8b0
          try clear c8b1
          try clear c9
          try clear c9b0
          try clear c9b1
          try clear c11
          try clear c12
          try clear c12b0
          try clear c13
          try clear c13b0
          try clear c15
          try clear c15b0
          try clear p15
          try clear q15
          try clear hx15
          try clear c16
          try clear p16
          try clear q16
          try clear hx16
          try clear hf16
          try clear c18
          try clear hx18
          try clear hf18
          try clear hx154_0
          try clear hx16_0
          try clear hx18_0
          try clear p154
          try clear p16
          try clear p2
          try clear p6
          try clear q154
          try clear q16
          obtain ⟨x5_3, x7_3, rfl, HA, HK3, HO_5, HB, HCF⟩ := hrel
          cases gk with
          | zero => exact absurd HA.out (by simp [laws_toTermSS.l1])
          | succ k3 =>
           have H := HA.out
           clear HA
           simp only [laws_toTermSS.l1, List.length_map] at H
           by_cases c20 : x7_3 < (x5_3.length : Int)
           ·
            rw [if_pos c20] at H
            have c20b0 : decide (x7_3 < (x5_3.length : Int)) = true := decide_eq_true c20
            clear c20
            replace H := Option.bind_eq_some_iff.mp H
            obtain ⟨⟨t159, t160, t161, t162⟩, A210, H⟩ := H
            replace H : (if 0 ≤ x7_3 then (laws_toTermSS.l1 k3 l0 ((x5_3.map Prod.fst).set (x7_3 : Int).toNat (([(⟨t159, t160, t161, t162⟩ : S38)] : List (S38)))) (wrap64 (x7_3 + 1))) else (none)) = some r := H
            have A21 := Aside0.mk A210
            clear A210
            obtain ⟨y163, hy163⟩ : ∃ y_ : List (S38), y_ = (([(⟨t159, t160, t161, t162⟩ : S38)] : List (S38))) := ⟨_, rfl⟩
            replace H : (if 0 ≤ x7_3 then (laws_toTermSS.l1 k3 l0 ((x5_3.map Prod.fst).set (x7_3 : Int).toNat y163) (wrap64 (x7_3 + 1))) else (none)) = some r := by first | (rw [hy163]; with_reducible exact H) | (have H2_ := (Option.bind_some _ _).symm.trans H; rw [hy163]; with_reducible exact H2_) | (have H2_ := (Option.bind_some _ _).symm.trans H; with_reducible exact H2_) | with_reducible exact H | (rw [hy163]; exact H) | exact H
            have Ny163 := Aside0.mk hy163
            clear hy163
            by_cases c22 : 0 ≤ x7_3
            ·
             rw [if_pos c22] at H
             have c22b0 : decide (0 ≤ x7_3) = true := decide_eq_true c22
             clear c22
             obtain ⟨y166, hy166⟩ : ∃ y_ : List (List (S38) × Bool), y_ = (x5_3.set (x7_3 : Int).toNat (y163, false)) := ⟨_, rfl⟩
             replace H : (laws_toTermSS.l1 k3 l0 (y166.map Prod.fst) (wrap64 (x7_3 + 1))) = some r := by rw [hy166, List.map_set]; exact H
             have Ny166 := Aside0.mk hy166
             clear hy166
             have H' := Aside0.mk H
             clear H
             obtain ⟨Ao24, co24, eo24⟩ := Kd.S_slice HO_5.out
             subst eo24
             go_wp2_with (first | ((with_reducible refine gate_callee (f := 14) rfl ?_); refine goesL_ (some 46) rfl rfl Tryd.func14 (by kernel_rfl) rfl #[] rfl zq6 ?_; (with_reducible refine (laws_fillerTerm.calls  t159 t160 t161 t162 _ A21.out).mono ?_); rintro e w25 ⟨rfl, hb⟩; refine ⟨_, rfl, ?_⟩; replace HO_5 := Aside0.mk (Kd.S_below (by (with_reducible repeat (first | apply Kd.S_alloc | apply Kd.S_drewN | apply Kd.S_drew)); exact HO_5.out) hb); replace HB := Aside0.mk (below_step (zb0 HB) hb); (try clear hb); (try clear hb2); (try clear hk); (try clear hi)) | ((with_reducible refine gate_dst (N := 47) rfl ?_); (try (refine gate_guard (by rfl) ?_; dsimp only)); refine Kd.R_lit k38 _ 38 ?hg (N := 47) ?hd (xs := ([(⟨t159, t160, t161, t162⟩ : S38)] : List (S38))) (inner := [.int .i64 t159, .int .i64 t160, .int .i64 t161, .int .i64 t162]) (ok := fun _ => True) (okp := fun _ => True) ?hr ?hp (fun _ hk => hk) trivial (Below.refl _ _) (Nat.le_refl _) (by simp) ?_; (case hd => rfl); (case hg => rfl); (case hr => first | (go_simp; done) | (go_simp; rfl)); (case hp => exact (Reps.c4 (show Kd.M k38 _ _ _ (⟨t159, t160, t161, t162⟩ : S38) [.int .i64 t159, .int .i64 t160, .int .i64 t161, .int .i64 t162] from (k38_mkM _ _ _ (⟨t159, t160, t161, t162⟩ : S38) )) (Reps.none _ _))); intro v164 w26 ho27 hb hg_ hnew_; clear hg_ hnew_; (first | rw [← Ny163.out] at ho27 | (simp only [Int.reduceToNat] at ho27; rw [← Ny163.out] at ho27)); obtain ⟨adv, cv, ev⟩ := Kd.R_slice1 ho27 (by rw [Ny163.out]; exact Nat.zero_lt_one); subst ev; have HO165 := Aside0.mk (Kd.R_lower ho27 (below_size (zb0 HB))); replace HO_5 := Aside0.mk (Kd.S_elder' (by (with_reducible repeat (first | apply Kd.S_alloc | apply Kd.S_drewN | apply Kd.S_drew)); exact HO_5.out) (Kd.R_base ho27) hb); replace HB := Aside0.mk (below_step (zb0 HB) hb); clear hb ho27; have p23 : 0 ≤ (x7_3 : Int) := of_decide_eq_true (by first | (with_reducible assumption) | assumption); have q23 : (x7_3 : Int) < ((x5_3.length : Int) : Int) := of_decide_eq_true (by first | (with_reducible assumption) | assumption); obtain ⟨go23, co23, eo23, gb23, gl23, cl23, HG23⟩ := Kd.S_form HO_5.out (by omega); (first | cases eo23 | (injection eo23 with ea_ en_ ec_; (first | subst ea_ | (injection ea_ with ea_; subst ea_)); subst ec_; clear en_)); have GB23 := Aside0.mk gb23; have GG23 := Aside0.mk HG23; clear gb23 gl23 HG23; obtain ⟨_, ce23, hcl23, hM23, hcc23, hfr23, _, _⟩ := Kd.S_elem HO_5.out ([], false) (x7_3 : Int) p23 q23; obtain ⟨ve23_0, rfl, ge23_0⟩ := Kd.spq_M hM23; have hx23_0 := hcc23 0 _ rfl; have hf23_0 := hfr23 0; (try simp only [show ((Kd.spq 38 k38 filk38 a1)).sz = 1 from rfl, Nat.mul_one, Nat.add_zero] at hx23_0); (try simp only [show ((Kd.spq 38 k38 filk38 a1)).sz = 1 from rfl, Nat.mul_one, Nat.add_zero] at hf23_0); clear hcl23 hcc23 hfr23 hM23; replace p23 := eq_true p23; replace q23 := eq_true q23; have n_ := Aside0.mk (Kd.S_mono (ok' := (fun k_ => some k_ ≠ (.slice (some adv) y163.length cv : Value).ownBlock)) HO_5.out (fun k_ hk => hk.2)); clear HO_5; have HO_5 := n_; clear n_; have HX28 := Aside0.mk (show Kd.S (Kd.spq 38 k38 filk38 a1) 35 w26 w.heap.size (fun k_ => ((fun _ => True)) k_ ∧ ¬ ((fun k_ => some k_ = (.slice (some adv) y163.length cv : Value).ownBlock)) k_) (.slice (some ⟨go23, 0, none⟩) x5_3.length co24) x5_3 from (by (with_reducible repeat (first | apply Kd.S_alloc | apply Kd.S_drewN | apply Kd.S_drew)); exact Kd.S_mono HO_5.out (fun k_ hk => ⟨trivial, fun e_ => hk e_⟩))); obtain ⟨oki28, ce28, hcl28, hM28, hcc28, hfr28, hoki28, hH28⟩ := Kd.S_elem HX28.out ([], false) (x7_3 : Int) (of_decide_eq_true (by first | (with_reducible assumption) | assumption)) (by have h_ : (x7_3 : Int) < ((x5_3.length : Int) : Int) := of_decide_eq_true (by first | (with_reducible assumption) | assumption); first | exact h_ | (have e_ := (Kd.S_reads' HO_5.out).1; omega) | simpa using h_); obtain ⟨ve28_0, rfl, ge28_0⟩ := Kd.spq_M hM28; have HP28 := Kd.S_seg hH28 (of_decide_eq_true (by first | (with_reducible assumption) | assumption)) (by have h_ : (x7_3 : Int) < ((x5_3.length : Int) : Int) := of_decide_eq_true (by first | (with_reducible assumption) | assumption); first | exact h_ | (have e_ := (Kd.S_reads' HO_5.out).1; omega) | simpa using h_) (seg := [(.slice (some adv) y163.length cv : Value)]) (j := 0) (show 1 ≤ 1 from by decide) (x' := (y163, false)) (Kd.spq_row0 (Kd.R_mono (Kd.R_tight rfl (Kd.R_mono (ok' := fun k_ => ((fun _ => True)) k_ ∧ k_ ≠ go23) (Kd.R_apart' (HO165.out) (Kd.S_typed HO_5.out) (by decide)) (fun k_ hk => ⟨trivial, fun e_ => (hk.2) (by rw [e_]; rfl)⟩))) (fun _ h_ => Or.inr (h_)))) (fun _ hk => hk) (fun k_ hk_ => ((Kd.R_mono (ok' := fun k_ => ((fun _ => True)) k_ ∧ k_ ≠ go23) (Kd.R_apart' (HO165.out) (Kd.S_typed HO_5.out) (by decide)) (fun k_ hk => ⟨trivial, fun e_ => (hk.2) (by rw [e_]; rfl)⟩))).1 k_ hk_.symm); have hx28_0 := hcc28 0 _ rfl; (try simp only [show ((Kd.spq 38 k38 filk38 a1)).sz = 1 from rfl, Nat.mul_one, Nat.add_zero] at hx28_0); have hf28_0 := hfr28 0; (try simp only [show ((Kd.spq 38 k38 filk38 a1)).sz = 1 from rfl, Nat.mul_one, Nat.add_zero] at hf28_0); clear hcl28 hcc28 hfr28 hM28 hoki28 hH28; (try simp only [show ((Kd.spq 38 k38 filk38 a1)).sz = 1 from rfl, Nat.mul_one, Nat.add_zero] at HP28)) | ((with_reducible refine gate_store (t := 35) (p := 48) rfl ?_); refine store_event (t := 35) (p := 48) (v := ?vo_w29) (w1 := (w26.setCell ⟨go23, (x7_3 : Int).toNat, none⟩ ((.slice (some adv) y163.length cv : Value)))) ?hg ?ho ?hn ?hr ?_; (case ho => rfl); (case hg => rfl); (case hn => rfl); (case hr => first | (go_simp; done) | (go_simp; rfl)); intro w29 hw; have hg : w26.grownBy w29 (some go23) := (by rw [hw]; exact HP28.2); have hp_ : Kd.S (Kd.spq 38 k38 filk38 a1) 35 w29 w.heap.size (fun _ => True) (.slice (some ⟨go23, 0, none⟩) x5_3.length co24) y166 := (by rw [hw, Ny166.out]; exact HP28.1); clear HP28; replace HO_5 := Aside0.mk (hp_); replace HB := Aside0.mk ((by rw [hw]; exact below_set (HB.out) GB23.out : Below w.heap.size w w29)); clear HO165; clear hg hw hp_))
             go_roundg k3
             case measure => have := HJ2.out; have := HK2.out; have := HK3.out; omega
             case rel => exact ⟨(y166), (wrap64 (x7_3 + 1)), (by first | rfl | (simp; done) | (simp [*]; done)), H', ⟨by have := HJ2.out; have := HK2.out; have := HK3.out; omega⟩, ⟨by (with_reducible repeat (first | apply Kd.S_alloc | apply Kd.S_drewN | apply Kd.S_drew)); exact HO_5.out⟩, ⟨(zb0 HB)⟩, ⟨Kd.FlQ.step HCF.out (of_decide_eq_true (by first | (with_reducible assumption) | assumption)) (by rw [Ny166.out, Ny163.out]; have h_ := Option.some.inj (show some _ = some _ from A21.out); simp only [Prod.mk.injEq] at h_; obtain ⟨h0_, h1_, h2_, h3_⟩ := h_; rw [← h0_, ← h1_, ← h2_, ← h3_]; rfl)⟩⟩
            ·
             rw [if_neg c22] at H
             exact absurd H (by simp)
           ·
            rw [if_neg c20] at H
            have c20b0 : decide (x7_3 < (x5_3.length : Int)) = false := decide_eq_false c20
            clear c20
            by_cases c30 : 0 ≤ (l0.length : Int)
            ·
             rw [if_pos c30] at H
             have c30b0 := eq_true c30
             have c30b1 : decide (0 ≤ (l0.length : Int)) = true := decide_eq_true c30
             clear c30
             by_cases c31 : (l0.length : Int) ≤ (x5_3.length : Int)
             ·
              rw [if_pos c31] at H
              have c31b0 := eq_true c31
              have c31b1 : decide ((l0.length : Int) ≤ (x5_3.length : Int)) = true := decide_eq_true c31
              clear c31
              obtain ⟨y167, hy167⟩ : ∃ y_ : List (List (S38)), y_ = ((x5_3.map Prod.fst).take ((l0.length : Int) : Int).toNat) := ⟨_, rfl⟩
              replace H : (some y167) = some r := by first | (rw [hy167]; with_reducible exact H) | (have H2_ := (Option.bind_some _ _).symm.trans H; rw [hy167]; with_reducible exact H2_) | (have H2_ := (Option.bind_some _ _).symm.trans H; with_reducible exact H2_) | with_reducible exact H | (rw [hy167]; exact H) | exact H
              have Ny167 := Aside0.mk hy167
              clear hy167
              obtain rfl := Option.some.inj H
              obtain ⟨Ao32, co32, eo32⟩ := Kd.S_slice HO_5.out
              subst eo32
              have q33 : ((l0.length : Int) : Int) ≤ ((x5_3.length : Int) : Int) := of_decide_eq_true (by first | (with_reducible assumption) | assumption)
              obtain ⟨i033, hi033, _, hsz33, _⟩ := info_parts laws_toTermSS.info
              have hcut33 := cut_to (P := Tryd.prog) 26 35 .i64 Tryd.underlying26 hi033 Ao32 x5_3.length co32 (l0.length : Int) (of_decide_eq_true (by first | (with_reducible assumption) | assumption)) q33 (Kd.S_reads' HO_5.out).2.1
              have hfin := Kd.FlQ.done (a1 := a1) HCF.out (of_decide_eq_false c20b0) Ny167.out (fun h_ => absurd HFA.out (by rw [h_.1, h_.2]; decide))
              have hlen : y167.length = l0.length := by rw [Ny167.out, List.length_take, List.length_map]; have := HCF.out.2.2.1; omega
              rw [show ((l0.length : Int) : Int).toNat = y167.length by rw [hlen]; omega] at hcut33
              obtain ⟨_, hcp, hfc⟩ := Kd.S_reads' HO_5.out
              rw [hfin] at hcp hfc
              have HFC := Aside0.mk hfc
              have HCP := Aside0.mk hcp
              clear hcp hfc hi033 hsz33 HO_5 hfin hlen
              replace q33 := eq_true q33
              go_wp2
              go_ret
              exact ⟨_, _, by first | rfl | (simp; done) | (simp only [← hji7]; first | rfl | (simp; done)) | (simp [*]; done), by (with_reducible repeat (first | refine Kd.C_alloc ?_ _ | refine Kd.C_drewN ?_ _ | refine Kd.C_drew ?_)); exact HFC.out, HCP.out, (zb0 HB)⟩
             ·
              rw [if_neg c31] at H
              exact absurd H (by simp)
            ·
             rw [if_neg c30] at H
             exact absurd H (by simp)
     ·
      rw [if_neg c9] at H
      exact absurd H (by simp)
    ·
     rw [if_neg c8] at H
     exact absurd H (by simp)
end Go.Proofs.YtemjjknnelngcaaDoor.PD
