-- By wip/mk/drv.py
import Derived.Test.YthanmlojikidbaaProg
import Derived.Test.YthanmlojikidbaaQPolylsCol
import Derived.Below
import Derived.Deep.Draws
import Derived.Deep.AppendLies
import Derived.Maps.AppendAt
import Derived.OwnWalk
import Derived.Laws.BytesArg
import Derived.Laws.MakeOwn
import Derived.Laws.OwnMore
import Derived.Deep.OwnRows
import Derived.Tactics
import Derived.Lib.ConvBytes
import Derived.Laws.Slices
import Derived.WalkKit
import Derived.KernelRfl
import Derived.RowKit3
import Derived.Deep.LoopGhost
import Derived.Deep.QuietTactic
import Derived.BigQuiet
import Derived.WideLaws
import Derived.Deep.DeepCutAuto
import Derived.Deep.CutBlock
import Derived.Deep.RegionHeld3
import Derived.Laws.Rows
import Derived.Lib.AppendStr
import Derived.Lib.SliceRun
import Derived.Lib.AppendZeros
import Derived.ArgAppend
import Derived.Laws.IdiomCopy
import Derived.OrdersHeld
import Derived.Laws.BitsLemmas
import Derived.RowKit
import Derived.Laws.Externs
import Derived.Shelf.Spec.BitsCarry
import Derived.Test.YthanmlojikidbaaQPolylsW
namespace Go.Proofs.Ythanmlojikidbaa.PD
open Go.RowKit Go.Proofs.YthanmlojikidbaaW.PrintWords Go.Proofs.YthanmlojikidbaaW.PrintLast Go.Proofs.YthanmlojikidbaaW.PrintMore
attribute [local go_sem] max2_int min2_int max_two min_two max_three min_three max_four min_four
set_option linter.unusedVariables false
set_option linter.unusedSimpArgs false
def errW : Option Int → Value
  | none => .nilIface
  | some c => .iface 0 (.int .i64 c)
theorem errW_none : errW none = .nilIface := rfl
theorem errW_some (c : Int) : errW (some c) = .iface 0 (.int .i64 c) := rfl
theorem info51 : (Try.prog.info? 51).map (fun i => (i.zero, i.size, i.bytes)) = some (some (.agg #[(.int .i64 0), (.int .i64 0), (.int .i64 0), (.int .i64 0)]), 4, 32) := by kernel_rfl
-- the values' own types
/-! #### struct type 51 -/
structure S51 where
  f0 : Int
  f1 : Int
  f2 : Int
  f3 : Int
def z51 : S51 := ⟨(0 : Int), (0 : Int), (0 : Int), (0 : Int)⟩
def k51 : Kd S51 := Kd.iso (Kd.pair (Kd.int .i64) (Kd.pair (Kd.int .i64) (Kd.pair (Kd.int .i64) (Kd.int .i64)))) (fun x : S51 => (x.f0, x.f1, x.f2, x.f3))
theorem k51_open {w : World} {x : S51} {cs : List Value} (h : k51.K w x cs) : cs = [.int .i64 x.f0, .int .i64 x.f1, .int .i64 x.f2, .int .i64 x.f3] := by
  obtain ⟨_, _, rfl, rfl, ⟨_, _, rfl, rfl, ⟨_, _, rfl, rfl, rfl⟩⟩⟩ := h
  exact rfl
theorem k51_openM {w : World} {base : Nat} {ok : Nat → Prop} {x : S51} {cs : List Value} (h : k51.M w base ok x cs) : cs = [.int .i64 x.f0, .int .i64 x.f1, .int .i64 x.f2, .int .i64 x.f3] := by
  obtain ⟨_, _, rfl, rfl, ⟨_, _, rfl, rfl, ⟨_, _, rfl, rfl, rfl⟩⟩⟩ := h
  exact rfl
theorem k51_mkM (w : World) (base : Nat) (ok : Nat → Prop) (x : S51)  : k51.M w base ok x [.int .i64 x.f0, .int .i64 x.f1, .int .i64 x.f2, .int .i64 x.f3] := ⟨[.int .i64 x.f0], [.int .i64 x.f1, .int .i64 x.f2, .int .i64 x.f3], rfl, rfl, ⟨[.int .i64 x.f1], [.int .i64 x.f2, .int .i64 x.f3], rfl, rfl, ⟨[.int .i64 x.f2], [.int .i64 x.f3], rfl, rfl, rfl⟩⟩⟩
def rd_T51 (xs : List S51) (i : Int) : S51 := xs.getD i.toNat z51
theorem at_T51 {w : World} {A : Option Addr} {n : Nat} {xs : List S51} (h : Kd.C k51 w A n xs) (i : Int) (h0 : 0 ≤ i) (h1 : i < n) : ∃ ad , A = some ad ∧ w.cell? (ad.add (i.toNat * 4)) = some (.int .i64 (rd_T51 xs i).f0) ∧ w.cell? ⟨(ad.add (i.toNat * 4)).block, (ad.add (i.toNat * 4)).off + 1, none⟩ = some (.int .i64 (rd_T51 xs i).f1) ∧ w.cell? ⟨(ad.add (i.toNat * 4)).block, (ad.add (i.toNat * 4)).off + 2, none⟩ = some (.int .i64 (rd_T51 xs i).f2) ∧ w.cell? ⟨(ad.add (i.toNat * 4)).block, (ad.add (i.toNat * 4)).off + 3, none⟩ = some (.int .i64 (rd_T51 xs i).f3) := by
  obtain ⟨ad, c, e, _, hK, hc0⟩ := Kd.C_get h z51 i h0 h1
  have hc : ∀ j u, c[j]? = some u → w.cell? (ad.add (i.toNat * 4 + j)) = some u := hc0
  obtain rfl := k51_open hK
  exact ⟨ad, e, hc 0 _ rfl, by rw [← add_field _ _ 1 (by omega)]; exact hc 1 _ rfl, by rw [← add_field _ _ 2 (by omega)]; exact hc 2 _ rfl, by rw [← add_field _ _ 3 (by omega)]; exact hc 3 _ rfl⟩
/-- A fact of a block, at a later world. -/
theorem zq1 {P Q : Prop} (h : Aside0 Q) (f : Q → P := by intro h_; (with_reducible repeat (first | refine blk_drewN ?_ _ | refine blk_drew ?_ | refine blk_alloc ?_ _)); exact h_) : P := f h.out
/-- A row's fact, at a later world. -/
theorem zq3 {P Q : Prop} (h : Aside0 Q) (f : Q → P := by intro h_; (with_reducible repeat (first | apply Kd.R_alloc | apply Kd.R_drewN | apply Kd.R_drew)); exact h_) : P := f h.out
/-- A fact of a block, behind stores elsewhere. -/
theorem zq5 {P Q : Prop} (h : Aside0 Q) (f : Q → P := by intro h_; repeat (first | (with_reducible first | exact h_ | refine blk_drewN ?_ _ | refine blk_drew ?_ | refine blk_alloc ?_ _ | refine blk_far ?_ (Aside0.out (by assumption)) _) | exact h_)) : P := f h.out
/-- A new block is none of the elder ones. -/
theorem zlt {w w1 : World} {g gb : Nat} {o : Obj} (h : Aside0 (w.heap[g]? = some o)) (hg : gb = w1.heap.size) (k : w.heap[g]? = some o → w1.heap[g]? = some o := by intro h_; (with_reducible repeat (first | refine blk_drewN ?_ _ | refine blk_drew ?_ | refine blk_alloc ?_ _)); exact h_) : g ≠ gb := by rw [hg]; exact Nat.ne_of_lt (blk_lt (k h.out))
theorem zgt {w w1 : World} {g gb : Nat} {o : Obj} (h : Aside0 (w.heap[g]? = some o)) (hg : gb = w1.heap.size) (k : w.heap[g]? = some o → w1.heap[g]? = some o := by intro h_; (with_reducible repeat (first | refine blk_drewN ?_ _ | refine blk_drew ?_ | refine blk_alloc ?_ _)); exact h_) : gb ≠ g := by rw [hg]; exact Nat.ne_of_gt (blk_lt (k h.out))
/-- A fact of a block, behind a call. -/
theorem zbb {w w1 w2 : World} {g B : Nat} {o : Obj} (h : Aside0 (w.heap[g]? = some o)) (hb : Below B w1 w2) (hB : B = w1.heap.size := by rfl) (k : w.heap[g]? = some o → w1.heap[g]? = some o := by intro h_; (with_reducible repeat (first | refine blk_drewN ?_ _ | refine blk_drew ?_ | refine blk_alloc ?_ _)); exact h_) : w2.heap[g]? = some o := by subst hB; exact blk_below (k h.out) hb
theorem zc {w : World} {g : Nat} {t : TypeId} {cs : Array Value} (h : Aside0 (w.heap[g]? = some (.cells cs t (0, 0)))) (i : Nat) {v : Value} (e : cs[i]? = some v := by rfl) : w.cell? ⟨g, i, none⟩ = some v := (blk_cell h.out i).trans e
theorem zge {w w1 : World} {gb : Nat} (h : Below w.heap.size w w1) (hg : gb = w1.heap.size) : w.heap.size ≤ gb := by rw [hg]; exact h.size
theorem zq6 {α : Type} {a b : α} (h : a = b := by (try simp only [List.map_toArray, List.map_cons, List.map_nil]); first | done | rfl | (simp only [List.length_drop, List.length_take]; rfl)) : a = b := h
/-- An operation that yields in every world, taken first: its own proofs by default. -/
theorem zp {P : Program} {md : Region.Mode} {ops : Array Oper} {Q : Exit → Act → World → Prop} {S : World → Prop} {ds : List Nat} {i : Nat} {N : Option Tmp} {oi : Oper} {v : Value} {fuel : Nat} {l : Array Bool} {a a' : Act} {w : World} (l' : Array Bool) (hc : anyB md ops l l' i = true)
    (h : wpAnyLast P md ops Q S ds fuel l' a' w) (hi : ops[i]? = some oi := by rfl) (hN : oi.dst = N := by rfl) (hg : Region.wanted oi (yielded ops a.tmps) = true := by rfl)
    (hy : ∀ w', (execOp a.eval oi).run P w' = .ok (.value v) w' := by intro w'; go_simp; with_reducible rfl) (ha : a.put N v = a' := by simp only [Act.put, List.setIfInBounds_toArray, List.set_cons_zero, List.set_cons_succ, i64_w, i32_w]; rfl)
    (hQ : ∀ c a w, Q (.panic c) (a.put oi.dst v) w → Q (.panic c) a w := by exact fun _ _ _ h => h) : wpAnyLast P md ops Q S ds (fuel + 1) l a w := pure_ l' hi hN hc hQ (Or.inl ⟨hg, hy⟩) ha h
theorem zu {P : Program} {md : Region.Mode} {ops : Array Oper} {Q : Exit → Act → World → Prop} {S : World → Prop} {ds : List Nat} {i : Nat} {N : Option Tmp} {oi : Oper} {fuel : Nat} {l : Array Bool} {a a' : Act} {w : World} (l' : Array Bool) (hc : anyB md ops l l' i = true)
    (h : wpAnyLast P md ops Q S ds fuel l' a' w) (hi : ops[i]? = some oi := by rfl) (hN : oi.dst = N := by rfl) (hg : Region.wanted oi (yielded ops a.tmps) = false := by rfl)
    (ha : a.put N undef = a' := by simp only [Act.put, List.setIfInBounds_toArray, List.set_cons_zero, List.set_cons_succ, i64_w, i32_w]; rfl)
    (hQ : ∀ c a w, Q (.panic c) (a.put oi.dst undef) w → Q (.panic c) a w := by exact fun _ _ _ h => h) : wpAnyLast P md ops Q S ds (fuel + 1) l a w := pure_ l' hi hN hc hQ (Or.inr ⟨hg, rfl⟩) ha h
theorem zk {P : Program} {md : Region.Mode} {ops : Array Oper} {Q : Exit → Act → World → Prop} {S : World → Prop} {ds : List Nat} {i : Nat} {N : Option Tmp} {oi : Oper} {v : Value} {fuel : Nat} {l : Array Bool} {a a' : Act} {w : World} (l' : Array Bool) (hc : takeB md ops ds l l' i = true) (hS : S w)
    (h : wpAnyLast P md ops Q S ds fuel l' a' w) (hi : ops[i]? = some oi := by rfl) (hN : oi.dst = N := by rfl) (hg : Region.wanted oi (yielded ops a.tmps) = true := by rfl)
    (hy : ∀ w', S w' → (execOp a.eval oi).run P w' = .ok (.value v) w' := by intro w'; simp only [and_imp]; intros; go_simp; with_reducible rfl) (ha : a.put N v = a' := by simp only [Act.put, List.setIfInBounds_toArray, List.set_cons_zero, List.set_cons_succ, i64_w, i32_w]; rfl)
    (hQ : ∀ c a w, Q (.panic c) (a.put oi.dst v) w → Q (.panic c) a w := by exact fun _ _ _ h => h) : wpAnyLast P md ops Q S ds (fuel + 1) l a w := take_ l' hi hN hc hQ (Or.inl ⟨hg, hy⟩) hS ha h
def bl : Nat → Nat → List Bool
  | 0, _ => []
  | n + 1, m => (m % 2 == 1) :: bl n (m / 2)
/-- n marks, as the bits of m. -/
def bn (n m : Nat) : Array Bool := ⟨bl n m⟩
theorem zbe {P : Program} {ops : Array Oper} {rest : List Oper} {o : Oper} {a : Act} {Q : Exit → Act → World → Prop} {W : World} {N : Tmp} {cs : Array Value} {t : TypeId}
    (h : ∀ g, g = W.heap.size → ∀ w1, w1.heap[g]? = some (.cells cs t (0, 0)) → Below W.heap.size W w1 → wpList P ops Q rest (a.put o.dst (.pointer (some ⟨g, 0, none⟩))) w1) (hd : o.dst = some N := by rfl) (hgd : o.guard = none := by rfl)
    (hrun : (execOp a.eval o).run P W = .ok (.value (.pointer (some ⟨W.heap.size, 0, none⟩))) (W.alloc (.cells cs t (0, 0))) := by first | (go_simp; done) | (go_simp; rfl)) : wpList P ops Q (o :: rest) a W := box_event hgd hd hrun h
theorem zb0 {w W0 W1 : World} {B : Nat} (h : Aside0 (Below B w W0)) (f : Below B w W0 → Below B w W1 := by intro h_; repeat (first | (with_reducible first | exact h_ | apply below_alloc | apply pw_below_drewN | apply below_drew1) | exact h_)) : Below B w W1 := f h.out
theorem zb1 {w W0 W1 : World} {B : Nat} (h : Aside0 (Below B w W0)) (f : Below B w W0 → Below B w W1 := by intro h_; repeat (first | (with_reducible first | exact h_ | apply below_alloc | apply pw_below_drewN | apply below_drew1 | refine below_set ?_ (Aside0.out (by assumption))) | exact h_)) : Below B w W1 := f h.out
/-! a made slice's spare cells -/
def room (n : Nat) : Nat := if n % 6 = 5 then 0 else if n % 3 = 0 then 1 else n
/-- A list with the spare cells behind it. -/
def flb {α : Type} (z : α) (b : Bool) (l : List α) : List α := l ++ (if b = true ∧ l = [] then [] else List.replicate (room l.length) z)
/-- What a loop that copies has done. -/
def Cop {α : Type} (l x : List α) (i : Int) : Prop := 0 ≤ i ∧ i ≤ l.length ∧ x.length = l.length + room l.length ∧ x.length ≤ 35184372088832 ∧ x.take i.toNat = l.take i.toNat
def Fil {α : Type} (z : α) (l x : List α) (i : Int) : Prop := (l.length : Int) ≤ i ∧ i ≤ x.length ∧ x.length = l.length + room l.length ∧ x.length ≤ 35184372088832 ∧ x.take i.toNat = l ++ List.replicate (i.toNat - l.length) z
theorem Cop.start {α : Type} {l x : List α} {z : α} {t j : Int} (hx : x = List.replicate j.toNat z) (hj : wrap64 ((l.length : Int) + t) = j) (ht : t = (room l.length : Int)) (hm : j.toNat ≤ 35184372088832) (h0 : 0 ≤ j) (hl : l.length ≤ 9223372036854775807) : Cop l x 0 := by
  subst ht
  have hr : room l.length ≤ l.length + 1 := by unfold room; split <;> (try split) <;> omega
  have : j = (l.length : Int) + (room l.length : Int) := by
    rw [← hj] at h0 hm ⊢
    unfold wrap64 at *
    omega
  refine ⟨by omega, by omega, ?_, ?_, by simp⟩
  · rw [hx, List.length_replicate]; omega
  · rw [hx, List.length_replicate]; omega
theorem Cop.step {α : Type} {l x y : List α} {i : Int} {d : α} (h : Cop l x i) (hi : i < l.length) (hy : y = x.set i.toNat (l.getD i.toNat d)) : Cop l y (wrap64 (i + 1)) := by
  obtain ⟨h0, h1, h2, h3, h4⟩ := h
  have hw : wrap64 (i + 1) = i + 1 := by unfold wrap64; omega
  rw [hw]
  subst hy
  obtain ⟨n, rfl⟩ := Int.eq_ofNat_of_zero_le h0
  have hn : n < l.length := by omega
  have hnx : n < x.length := by omega
  refine ⟨by omega, by omega, by rw [List.length_set]; omega, by rw [List.length_set]; omega, ?_⟩
  rw [show ((n : Int) + 1).toNat = n + 1 by omega, Int.toNat_natCast] at *
  rw [List.take_succ_eq_append_getElem (by rw [List.length_set]; omega), List.take_succ_eq_append_getElem hn, List.take_set_of_le (Nat.le_refl _), h4]
  simp [List.getD_eq_getElem?_getD, List.getElem?_eq_getElem hn]
theorem Fil.step {α : Type} {z : α} {l x y : List α} {i : Int} (h : Fil z l x i) (hi : i < x.length) (hy : y = x.set i.toNat z) : Fil z l y (wrap64 (i + 1)) := by
  obtain ⟨h0, h1, h2, h3, h4⟩ := h
  have hw : wrap64 (i + 1) = i + 1 := by unfold wrap64; omega
  rw [hw]
  subst hy
  obtain ⟨n, rfl⟩ := Int.eq_ofNat_of_zero_le (show 0 ≤ i by omega)
  have hnx : n < x.length := by omega
  refine ⟨by omega, by rw [List.length_set]; omega, by rw [List.length_set]; omega, by rw [List.length_set]; omega, ?_⟩
  rw [show ((n : Int) + 1).toNat = n + 1 by omega, Int.toNat_natCast] at *
  rw [List.take_succ_eq_append_getElem (by rw [List.length_set]; omega), List.take_set_of_le (Nat.le_refl _), h4, List.getElem_set_self, List.append_assoc, ← List.replicate_succ', show n - l.length + 1 = n + 1 - l.length by omega]
theorem Fil.done {α : Type} {z : α} {l x y : List α} {i : Int} {b : Bool} (h : Fil z l x i) (hi : ¬ i < x.length) (hy : y = x.take ((l.length : Int) : Int).toNat) (hb : ¬ (b = true ∧ l = [])) : y = l ∧ flb z b y = x := by
  obtain ⟨h0, h1, h2, h3, h4⟩ := h
  have : i = x.length := by omega
  subst this
  rw [Int.toNat_natCast, List.take_length] at h4
  have e : y = l := by rw [hy, h4, Int.toNat_natCast]; simp
  refine ⟨e, ?_⟩
  subst e
  unfold flb
  rw [if_neg hb, h4, h2]; simp
/-! laws_big -/
def laws_big.f (l0 : List Int) (l1 : List Int) : Option (Bool) := if (l0.length : Int) > 1048576 then (some true) else (some (decide ((l1.length : Int) > (wrap64 (1048576 - (l0.length : Int))))))
/-! spec_l1In -/
def spec_l1In.f (a0 : Int) (a1 : Int) (a2 : Int) : Option (Bool) := if a0 ≥ a1 then (some (decide (a0 ≤ a2))) else (some false)
/-! spec_poTerm -/
def spec_poTerm.f (a0_0 : Int) (a0_1 : Int) (a0_2 : Int) (a0_3 : Int) : Option (Bool) := (spec_l1In.f a0_0 (-1000) 1000).bind fun t102 => (if t102 = true then ((spec_l1In.f a0_1 0 4).bind fun t103 => (if t103 = true then ((spec_l1In.f a0_2 0 4).bind fun t104 => (if t104 = true then ((spec_l1In.f a0_3 0 4).bind fun t105 => (if t105 = true then (some (decide ((wrap64 ((wrap64 (a0_1 + a0_2)) + a0_3)) ≤ 4))) else (some false))) else (some false))) else (some false))) else (some false))
/-! spec_l1Sign -/
def spec_l1Sign.f (a0 : Int) : Option (Int) := if a0 > 0 then (some 1) else (if a0 < 0 then (some (-1)) else (some 0))
/-! spec_poOrder -/
def spec_poOrder.f (a0_0 : Int) (a0_1 : Int) (a0_2 : Int) (a0_3 : Int) (a1_0 : Int) (a1_1 : Int) (a1_2 : Int) (a1_3 : Int) : Option (Int) := if a0_1 = a1_1 then (if a0_2 = a1_2 then ((spec_l1Sign.f (wrap64 (a0_3 - a1_3))).bind fun t108 => (some t108)) else ((spec_l1Sign.f (wrap64 (a0_2 - a1_2))).bind fun t109 => (some t109))) else ((spec_l1Sign.f (wrap64 (a0_1 - a1_1))).bind fun t110 => (some t110))
/-! spec_poGood -/
def spec_poGood.l0 : Nat → List (S51) → List (S51) → Int → Int → Option (Bool)
  | 0, _, _, _, _ => none
  | k + 1, x0, x5, x6, x7 => if x7 < x6 then (if 0 ≤ x7 then (if x7 < (x5.length : Int) then ((spec_poTerm.f ((rd_T51 x5 x7).f0) ((rd_T51 x5 x7).f1) ((rd_T51 x5 x7).f2) ((rd_T51 x5 x7).f3)).bind fun t113 => (if t113 = true then (if ((rd_T51 x5 x7).f0) = 0 then (some false) else (if x7 > 0 then (if 0 ≤ (wrap64 (x7 - 1)) then (if (wrap64 (x7 - 1)) < (x0.length : Int) then ((spec_poOrder.f ((rd_T51 x0 (wrap64 (x7 - 1))).f0) ((rd_T51 x0 (wrap64 (x7 - 1))).f1) ((rd_T51 x0 (wrap64 (x7 - 1))).f2) ((rd_T51 x0 (wrap64 (x7 - 1))).f3) ((rd_T51 x5 x7).f0) ((rd_T51 x5 x7).f1) ((rd_T51 x5 x7).f2) ((rd_T51 x5 x7).f3)).bind fun t115 => (if t115 ≥ 0 then (some false) else (spec_poGood.l0 k x0 x5 x6 (wrap64 (x7 + 1))))) else (none)) else (none)) else (spec_poGood.l0 k x0 x5 x6 (wrap64 (x7 + 1))))) else (some false))) else (none)) else (none)) else (some (decide ((x0.length : Int) ≤ 20)))
def spec_poGood.f (k : Nat) (l0 : List (S51)) : Option (Bool) := spec_poGood.l0 k l0 l0 (l0.length : Int) 0
theorem spec_poGood.mono_l : ∀ k, (∀ y0 y1 y2 y3, LeO (spec_poGood.l0 k y0 y1 y2 y3) (spec_poGood.l0 (k + 1) y0 y1 y2 y3))
  | 0 => fun _ _ _ _ r h => by simp [spec_poGood.l0] at h
  | k + 1 => by
    have ih0 := spec_poGood.mono_l k
    · intro y0 y1 y2 y3
      unfold spec_poGood.l0
      repeat' first
      | (with_reducible exact ih0 _ _ _ _)
      | (with_reducible exact LeO.refl _)
      | (with_reducible exact LeO.none _)
      | (with_reducible refine LeO.ite ?_ ?_)
      | (with_reducible refine LeO.bind ?_ (fun _ => ?_))
      | exact ih0 _ _ _ _
      | exact LeO.none _
      | refine LeO.ite ?_ ?_
      | refine LeO.bind ?_ (fun _ => ?_)
theorem spec_poGood.mono : ∀ a0 k, LeO (spec_poGood.f k a0) (spec_poGood.f (k + 1) a0) := by
  intro a0 k
  have ih0 := spec_poGood.mono_l k
  unfold spec_poGood.f
  repeat' first
      | (with_reducible exact ih0 _ _ _ _)
      | (with_reducible exact LeO.refl _)
      | (with_reducible exact LeO.none _)
      | (with_reducible refine LeO.ite ?_ ?_)
      | (with_reducible refine LeO.bind ?_ (fun _ => ?_))
      | exact ih0 _ _ _ _
      | exact LeO.none _
      | refine LeO.ite ?_ ?_
      | refine LeO.bind ?_ (fun _ => ?_)
/-! spec_l1Cur_next -/
def spec_l1Cur_next.f (s0_0 : List Int) (s0_1 : Int) (s0_2 : Int) : Option (Int × Int × Int) := if s0_1 < (s0_0.length : Int) then (if 0 ≤ s0_1 then (if (wrap64 (s0_1 + 1)) ≤ (s0_0.length : Int) then (some (wrap64 (rd s0_0 s0_1), wrap64 (s0_1 + 1), IntKind.u64.wrap ((IntKind.u64.wrap ((IntKind.u64.wrap (s0_2 * 6364136223846793005)) + (IntKind.u64.wrap (wrap64 (rd s0_0 s0_1))))) + 1442695040888963407))) else (some (wrap64 (Go.bits .and .u64 ((IntKind.u64.wrap ((IntKind.u64.wrap ((IntKind.u64.wrap (s0_2 * 6364136223846793005)) + (IntKind.u64.wrap (wrap64 (rd s0_0 s0_1))))) + 1442695040888963407)) / 1099511627776) 255), wrap64 (s0_1 + 1), IntKind.u64.wrap ((IntKind.u64.wrap ((IntKind.u64.wrap (s0_2 * 6364136223846793005)) + (IntKind.u64.wrap (wrap64 (rd s0_0 s0_1))))) + 1442695040888963407)))) else (none)) else (if (wrap64 (s0_1 + 1)) ≤ (s0_0.length : Int) then (some (0, wrap64 (s0_1 + 1), IntKind.u64.wrap ((IntKind.u64.wrap (IntKind.u64.wrap (s0_2 * 6364136223846793005))) + 1442695040888963407))) else (some (wrap64 (Go.bits .and .u64 ((IntKind.u64.wrap ((IntKind.u64.wrap (IntKind.u64.wrap (s0_2 * 6364136223846793005))) + 1442695040888963407)) / 1099511627776) 255), wrap64 (s0_1 + 1), IntKind.u64.wrap ((IntKind.u64.wrap (IntKind.u64.wrap (s0_2 * 6364136223846793005))) + 1442695040888963407))))
/-! spec_l1Cur_pick -/
def spec_l1Cur_pick.f (s0_0 : List Int) (s0_1 : Int) (s0_2 : Int) (a1 : Int) : Option (Int × Int × Int) := if a1 ≤ 1 then (some (0, s0_1, s0_2)) else ((spec_l1Cur_next.f s0_0 s0_1 s0_2).bind fun bt117 => (if a1 > 200 then ((spec_l1Cur_next.f s0_0 bt117.2.1 bt117.2.2).bind fun bt120 => (if a1 = 0 then (none) else (some (Int.tmod (wrap64 ((wrap64 (bt117.1 * 256)) + bt120.1)) a1, bt120.2.1, bt120.2.2)))) else (if a1 = 0 then (none) else (some (Int.tmod bt117.1 a1, bt117.2.1, bt117.2.2)))))
/-! spec_l1Cur_among -/
def spec_l1Cur_among.f (s0_0 : List Int) (s0_1 : Int) (s0_2 : Int) (l1 : List Int) : Option (Int × Int × Int) := (spec_l1Cur_pick.f s0_0 s0_1 s0_2 (l1.length : Int)).bind fun bt123 => (if 0 ≤ bt123.1 then (if bt123.1 < (l1.length : Int) then (some (rd l1 bt123.1, bt123.2.1, bt123.2.2)) else (none)) else (none))
/-! spec_l1Cur_one -/
def spec_l1Cur_one.f (s0_0 : List Int) (s0_1 : Int) (s0_2 : Int) (a1 : Int) : Option (Bool × Int × Int) := (spec_l1Cur_pick.f s0_0 s0_1 s0_2 a1).bind fun bt127 => (some ((bt127.1 == 0), bt127.2.1, bt127.2.2))
/-! spec_poPut -/
mutual
def spec_poPut.j1 : Nat → List (S51) → Int → Int → Int → Int → Int → Option ((List (S51)))
  | 0, _, _, _, _, _, _ => none
  | k + 1, x0, x5, x131000, x131001, x131002, x131003 => if 0 ≤ x5 then (if x5 ≤ (x0.length : Int) then ((some (x0.drop (x5 : Int).toNat : List (S51))).bind fun y133 => (if x5 < (x0.length : Int) then ((spec_poOrder.f ((rd_T51 x0 x5).f0) ((rd_T51 x0 x5).f1) ((rd_T51 x0 x5).f2) ((rd_T51 x0 x5).f3) x131000 x131001 x131002 x131003).bind fun t138 => (spec_poPut.j2 k x0 x5 y133 (t138 == 0) x131000 x131001 x131002 x131003)) else (spec_poPut.j2 k x0 x5 y133 false x131000 x131001 x131002 x131003))) else (none)) else (none)
def spec_poPut.j2 : Nat → List (S51) → Int → List (S51) → Bool → Int → Int → Int → Int → Option ((List (S51)))
  | 0, _, _, _, _, _, _, _, _ => none
  | k + 1, x0, x5, x6, x38, x131000, x131001, x131002, x131003 => if x38 = true then (if 0 ≤ x5 then (if x5 < (x0.length : Int) then (if 0 ≤ (wrap64 (x5 + 1)) then (if (wrap64 (x5 + 1)) ≤ (x0.length : Int) then ((some (x0.drop ((wrap64 (x5 + 1)) : Int).toNat : List (S51))).bind fun y140 => ((some (([] : List (S51)) : List (S51))).bind fun y144 => (if x5 ≤ (x0.length : Int) then ((some (x0.take (x5 : Int).toNat : List (S51))).bind fun y147 => (if y144.length + y147.length < 4398046511104 then ((some (y144 ++ y147 : List (S51))).bind fun y151 => (if (wrap64 (x131000 + ((rd_T51 x0 x5).f0))) = 0 then (if y151.length + y140.length < 4398046511104 then (some (y151 ++ y140)) else (none)) else (if y151.length < 4398046511104 then ((some (y151 ++ [(⟨wrap64 (x131000 + ((rd_T51 x0 x5).f0)), x131001, x131002, x131003⟩ : S51)] : List (S51))).bind fun y157 => (if y157.length + y140.length < 4398046511104 then (some (y157 ++ y140)) else (none))) else (none)))) else (none))) else (none)))) else (none)) else (none)) else (none)) else (none)) else ((some (([] : List (S51)) : List (S51))).bind fun y163 => (if 0 ≤ x5 then (if x5 ≤ (x0.length : Int) then ((some (x0.take (x5 : Int).toNat : List (S51))).bind fun y166 => (if y163.length + y166.length < 4398046511104 then ((some (y163 ++ y166 : List (S51))).bind fun y170 => (if x131000 = 0 then (if y170.length + x6.length < 4398046511104 then (some (y170 ++ x6)) else (none)) else (if y170.length < 4398046511104 then ((some (y170 ++ [(⟨x131000, x131001, x131002, x131003⟩ : S51)] : List (S51))).bind fun y176 => (if y176.length + x6.length < 4398046511104 then (some (y176 ++ x6)) else (none))) else (none)))) else (none))) else (none)) else (none)))
def spec_poPut.l0 : Nat → List (S51) → Int → Int → Int → Int → Int → Option ((List (S51)))
  | 0, _, _, _, _, _, _ => none
  | k + 1, x0, x5, x131000, x131001, x131002, x131003 => if x5 < (x0.length : Int) then (if 0 ≤ x5 then ((spec_poOrder.f ((rd_T51 x0 x5).f0) ((rd_T51 x0 x5).f1) ((rd_T51 x0 x5).f2) ((rd_T51 x0 x5).f3) x131000 x131001 x131002 x131003).bind fun t132 => (if t132 < 0 then (spec_poPut.l0 k x0 (wrap64 (x5 + 1)) x131000 x131001 x131002 x131003) else (spec_poPut.j1 k x0 x5 x131000 x131001 x131002 x131003))) else (none)) else (spec_poPut.j1 k x0 x5 x131000 x131001 x131002 x131003)
end
def spec_poPut.f (k : Nat) (l0 : List (S51)) (a1_0 : Int) (a1_1 : Int) (a1_2 : Int) (a1_3 : Int) : Option ((List (S51))) := spec_poPut.l0 k l0 0 a1_0 a1_1 a1_2 a1_3
theorem spec_poPut.mono_l : ∀ k, (∀ y0 y1 y2 y3 y4 y5, LeO (spec_poPut.j1 k y0 y1 y2 y3 y4 y5) (spec_poPut.j1 (k + 1) y0 y1 y2 y3 y4 y5)) ∧ (∀ y0 y1 y2 y3 y4 y5 y6 y7, LeO (spec_poPut.j2 k y0 y1 y2 y3 y4 y5 y6 y7) (spec_poPut.j2 (k + 1) y0 y1 y2 y3 y4 y5 y6 y7)) ∧ (∀ y0 y1 y2 y3 y4 y5, LeO (spec_poPut.l0 k y0 y1 y2 y3 y4 y5) (spec_poPut.l0 (k + 1) y0 y1 y2 y3 y4 y5))
  | 0 => ⟨fun _ _ _ _ _ _ r h => by simp [spec_poPut.j1] at h, fun _ _ _ _ _ _ _ _ r h => by simp [spec_poPut.j2] at h, fun _ _ _ _ _ _ r h => by simp [spec_poPut.l0] at h⟩
  | k + 1 => by
    obtain ⟨ih0, ih1, ih2⟩ := spec_poPut.mono_l k
    refine ⟨?_, ?_, ?_⟩
    · intro y0 y1 y2 y3 y4 y5
      unfold spec_poPut.j1
      repeat' first
      | (with_reducible exact ih0 _ _ _ _ _ _)
      | (with_reducible exact ih1 _ _ _ _ _ _ _ _)
      | (with_reducible exact ih2 _ _ _ _ _ _)
      | (with_reducible exact LeO.refl _)
      | (with_reducible exact LeO.none _)
      | (with_reducible refine LeO.ite ?_ ?_)
      | (with_reducible refine LeO.bind ?_ (fun _ => ?_))
      | exact ih0 _ _ _ _ _ _
      | exact ih1 _ _ _ _ _ _ _ _
      | exact ih2 _ _ _ _ _ _
      | exact LeO.none _
      | refine LeO.ite ?_ ?_
      | refine LeO.bind ?_ (fun _ => ?_)
    · intro y0 y1 y2 y3 y4 y5 y6 y7
      unfold spec_poPut.j2
      repeat' first
      | (with_reducible exact ih0 _ _ _ _ _ _)
      | (with_reducible exact ih1 _ _ _ _ _ _ _ _)
      | (with_reducible exact ih2 _ _ _ _ _ _)
      | (with_reducible exact LeO.refl _)
      | (with_reducible exact LeO.none _)
      | (with_reducible refine LeO.ite ?_ ?_)
      | (with_reducible refine LeO.bind ?_ (fun _ => ?_))
      | exact ih0 _ _ _ _ _ _
      | exact ih1 _ _ _ _ _ _ _ _
      | exact ih2 _ _ _ _ _ _
      | exact LeO.none _
      | refine LeO.ite ?_ ?_
      | refine LeO.bind ?_ (fun _ => ?_)
    · intro y0 y1 y2 y3 y4 y5
      unfold spec_poPut.l0
      repeat' first
      | (with_reducible exact ih0 _ _ _ _ _ _)
      | (with_reducible exact ih1 _ _ _ _ _ _ _ _)
      | (with_reducible exact ih2 _ _ _ _ _ _)
      | (with_reducible exact LeO.refl _)
      | (with_reducible exact LeO.none _)
      | (with_reducible refine LeO.ite ?_ ?_)
      | (with_reducible refine LeO.bind ?_ (fun _ => ?_))
      | exact ih0 _ _ _ _ _ _
      | exact ih1 _ _ _ _ _ _ _ _
      | exact ih2 _ _ _ _ _ _
      | exact LeO.none _
      | refine LeO.ite ?_ ?_
      | refine LeO.bind ?_ (fun _ => ?_)
theorem spec_poPut.mono : ∀ a0 a1 a2 a3 a4 k, LeO (spec_poPut.f k a0 a1 a2 a3 a4) (spec_poPut.f (k + 1) a0 a1 a2 a3 a4) := by
  intro a0 a1 a2 a3 a4 k
  obtain ⟨ih0, ih1, ih2⟩ := spec_poPut.mono_l k
  unfold spec_poPut.f
  repeat' first
      | (with_reducible exact ih0 _ _ _ _ _ _)
      | (with_reducible exact ih1 _ _ _ _ _ _ _ _)
      | (with_reducible exact ih2 _ _ _ _ _ _)
      | (with_reducible exact LeO.refl _)
      | (with_reducible exact LeO.none _)
      | (with_reducible refine LeO.ite ?_ ?_)
      | (with_reducible refine LeO.bind ?_ (fun _ => ?_))
      | exact ih0 _ _ _ _ _ _
      | exact ih1 _ _ _ _ _ _ _ _
      | exact ih2 _ _ _ _ _ _
      | exact LeO.none _
      | refine LeO.ite ?_ ?_
      | refine LeO.bind ?_ (fun _ => ?_)
/-! spec_poSum -/
def spec_poSum.l0 : Nat → List (S51) → List (S51) → Int → Int → Option ((List (S51)) × Bool)
  | 0, _, _, _, _ => none
  | k + 1, x4, x7, x8, x9 => if x9 < x8 then (if 0 ≤ x9 then (if x9 < (x7.length : Int) then ((spec_poPut.f k x4 ((rd_T51 x7 x9).f0) ((rd_T51 x7 x9).f1) ((rd_T51 x7 x9).f2) ((rd_T51 x7 x9).f3)).bind fun t184 => (spec_poSum.l0 k t184 x7 x8 (wrap64 (x9 + 1)))) else (none)) else (none)) else ((spec_poGood.f k x4).bind fun t187 => (if t187 = true then (some (x4, true)) else (some (([] : List (S51)), false))))
def spec_poSum.f (k : Nat) (l0 : List (S51)) : Option ((List (S51)) × Bool) := spec_poSum.l0 k ([] : List (S51)) l0 (l0.length : Int) 0
theorem spec_poSum.mono_l : ∀ k, (∀ y0 y1 y2 y3, LeO (spec_poSum.l0 k y0 y1 y2 y3) (spec_poSum.l0 (k + 1) y0 y1 y2 y3))
  | 0 => fun _ _ _ _ r h => by simp [spec_poSum.l0] at h
  | k + 1 => by
    have ih0 := spec_poSum.mono_l k
    · intro y0 y1 y2 y3
      unfold spec_poSum.l0
      repeat' first
      | (with_reducible exact ih0 _ _ _ _)
      | (with_reducible exact spec_poGood.mono _ _)
      | (with_reducible exact spec_poPut.mono _ _ _ _ _ _)
      | (with_reducible exact LeO.refl _)
      | (with_reducible exact LeO.none _)
      | (with_reducible refine LeO.ite ?_ ?_)
      | (with_reducible refine LeO.bind ?_ (fun _ => ?_))
      | exact ih0 _ _ _ _
      | exact spec_poGood.mono _ _
      | exact spec_poPut.mono _ _ _ _ _ _
      | exact LeO.none _
      | refine LeO.ite ?_ ?_
      | refine LeO.bind ?_ (fun _ => ?_)
theorem spec_poSum.mono : ∀ a0 k, LeO (spec_poSum.f k a0) (spec_poSum.f (k + 1) a0) := by
  intro a0 k
  have ih0 := spec_poSum.mono_l k
  unfold spec_poSum.f
  repeat' first
      | (with_reducible exact ih0 _ _ _ _)
      | (with_reducible exact spec_poGood.mono _ _)
      | (with_reducible exact spec_poPut.mono _ _ _ _ _ _)
      | (with_reducible exact LeO.refl _)
      | (with_reducible exact LeO.none _)
      | (with_reducible refine LeO.ite ?_ ?_)
      | (with_reducible refine LeO.bind ?_ (fun _ => ?_))
      | exact ih0 _ _ _ _
      | exact spec_poGood.mono _ _
      | exact spec_poPut.mono _ _ _ _ _ _
      | exact LeO.none _
      | refine LeO.ite ?_ ?_
      | refine LeO.bind ?_ (fun _ => ?_)
/-! spec_poAdd -/
def spec_poAdd.f (k : Nat) (l0 : List (S51)) (l1 : List (S51)) : Option ((List (S51)) × Bool) := (some (([] : List (S51)) : List (S51))).bind fun y188 => (if y188.length + l0.length < 4398046511104 then ((some (y188 ++ l0 : List (S51))).bind fun y191 => (if y191.length + l1.length < 4398046511104 then ((spec_poSum.f k (y191 ++ l1)).bind fun bt197 => (some (bt197.1, bt197.2))) else (none))) else (none))
theorem spec_poAdd.mono : ∀ a0 a1 k, LeO (spec_poAdd.f k a0 a1) (spec_poAdd.f (k + 1) a0 a1) := by
  intro a0 a1 k
  unfold spec_poAdd.f
  repeat' first
      | (with_reducible exact spec_poSum.mono _ _)
      | (with_reducible exact LeO.refl _)
      | (with_reducible exact LeO.none _)
      | (with_reducible refine LeO.ite ?_ ?_)
      | (with_reducible refine LeO.bind ?_ (fun _ => ?_))
      | exact spec_poSum.mono _ _
      | exact LeO.none _
      | refine LeO.ite ?_ ?_
      | refine LeO.bind ?_ (fun _ => ?_)
/-! spec_poWith -/
def spec_poWith.f (a0_0 : Int) (a0_1 : Int) (a0_2 : Int) (a0_3 : Int) (a1 : Int) (a2 : Int) : Option (Int × Int × Int × Int) := if a1 = 0 then (some (a0_0, a2, a0_2, a0_3)) else (if a1 = 1 then (some (a0_0, a0_1, a2, a0_3)) else (some (a0_0, a0_1, a0_2, a2)))
/-! spec_l1Cur_term -/
def spec_l1Cur_term.l0 : Nat → Int → Int → Int → List Int → Int → Int → Int → Int → Int → Int → Option (Int × Int × Int × Int × Int × Int)
  | 0, _, _, _, _, _, _, _, _, _, _ => none
  | k + 1, x1, x6, x7, x1000, x1001, x1002, x214000, x214001, x214002, x214003 => if x7 < x1 then ((spec_l1Cur_pick.f x1000 x1001 x1002 (wrap64 (x6 + 1))).bind fun bt214 => ((spec_l1Cur_among.f x1000 bt214.2.1 bt214.2.2 (([0, 0, 1, 1, 2, bt214.1] : List Int))).bind fun bt220 => (if bt220.1 > x6 then ((spec_poWith.f x214000 x214001 x214002 x214003 x7 x6).bind fun bt223 => (spec_l1Cur_term.l0 k x1 0 (wrap64 (x7 + 1)) x1000 bt220.2.1 bt220.2.2 bt223.1 bt223.2.1 bt223.2.2.1 bt223.2.2.2)) else ((spec_poWith.f x214000 x214001 x214002 x214003 x7 bt220.1).bind fun bt227 => (spec_l1Cur_term.l0 k x1 (wrap64 (x6 - bt220.1)) (wrap64 (x7 + 1)) x1000 bt220.2.1 bt220.2.2 bt227.1 bt227.2.1 bt227.2.2.1 bt227.2.2.2))))) else ((spec_l1Cur_one.f x1000 x1001 x1002 24).bind fun bt231 => (if bt231.1 = true then ((spec_l1Cur_among.f x1000 bt231.2.1 bt231.2.2 (([1000, (-1000)] : List Int))).bind fun bt237 => (some (bt237.1, x214001, x214002, x214003, bt237.2.1, bt237.2.2))) else (some (x214000, x214001, x214002, x214003, bt231.2.1, bt231.2.2))))
def spec_l1Cur_term.f (k : Nat) (s0_0 : List Int) (s0_1 : Int) (s0_2 : Int) (a1 : Int) : Option (Int × Int × Int × Int × Int × Int) := (spec_l1Cur_pick.f s0_0 s0_1 s0_2 41).bind fun bt204 => ((spec_l1Cur_among.f s0_0 bt204.2.1 bt204.2.2 (([1, (-1), 2, (-3), 4, wrap64 (bt204.1 - 20)] : List Int))).bind fun bt210 => (spec_l1Cur_term.l0 k a1 4 0 s0_0 bt210.2.1 bt210.2.2 bt210.1 0 0 0))
theorem spec_l1Cur_term.mono_l : ∀ k, (∀ y0 y1 y2 y3 y4 y5 y6 y7 y8 y9, LeO (spec_l1Cur_term.l0 k y0 y1 y2 y3 y4 y5 y6 y7 y8 y9) (spec_l1Cur_term.l0 (k + 1) y0 y1 y2 y3 y4 y5 y6 y7 y8 y9))
  | 0 => fun _ _ _ _ _ _ _ _ _ _ r h => by simp [spec_l1Cur_term.l0] at h
  | k + 1 => by
    have ih0 := spec_l1Cur_term.mono_l k
    · intro y0 y1 y2 y3 y4 y5 y6 y7 y8 y9
      unfold spec_l1Cur_term.l0
      repeat' first
      | (with_reducible exact ih0 _ _ _ _ _ _ _ _ _ _)
      | (with_reducible exact LeO.refl _)
      | (with_reducible exact LeO.none _)
      | (with_reducible refine LeO.ite ?_ ?_)
      | (with_reducible refine LeO.bind ?_ (fun _ => ?_))
      | exact ih0 _ _ _ _ _ _ _ _ _ _
      | exact LeO.none _
      | refine LeO.ite ?_ ?_
      | refine LeO.bind ?_ (fun _ => ?_)
theorem spec_l1Cur_term.mono : ∀ a0 a1 a2 a3 k, LeO (spec_l1Cur_term.f k a0 a1 a2 a3) (spec_l1Cur_term.f (k + 1) a0 a1 a2 a3) := by
  intro a0 a1 a2 a3 k
  have ih0 := spec_l1Cur_term.mono_l k
  unfold spec_l1Cur_term.f
  repeat' first
      | (with_reducible exact ih0 _ _ _ _ _ _ _ _ _ _)
      | (with_reducible exact LeO.refl _)
      | (with_reducible exact LeO.none _)
      | (with_reducible refine LeO.ite ?_ ?_)
      | (with_reducible refine LeO.bind ?_ (fun _ => ?_))
      | exact ih0 _ _ _ _ _ _ _ _ _ _
      | exact LeO.none _
      | refine LeO.ite ?_ ?_
      | refine LeO.bind ?_ (fun _ => ?_)
/-! spec_l1Cur_poly -/
mutual
def spec_l1Cur_poly.j0 : Nat → Int → List (S51) → Int → List Int → Int → Int → Option ((List (S51)) × Int × Int)
  | 0, _, _, _, _, _, _ => none
  | k + 1, x1, x5, x6, x1000, x1001, x1002 => spec_l1Cur_poly.l0 k x1 x5 x6 0 x1000 x1001 x1002
def spec_l1Cur_poly.l0 : Nat → Int → List (S51) → Int → Int → List Int → Int → Int → Option ((List (S51)) × Int × Int)
  | 0, _, _, _, _, _, _, _ => none
  | k + 1, x1, x5, x6, x7, x1000, x1001, x1002 => if x7 < x6 then ((spec_l1Cur_term.f k x1000 x1001 x1002 x1).bind fun bt249 => ((spec_poAdd.f k x5 (([(⟨bt249.1, bt249.2.1, bt249.2.2.1, bt249.2.2.2.1⟩ : S51)] : List (S51)))).bind fun bt258 => (if bt258.2 = true then (spec_l1Cur_poly.l0 k x1 bt258.1 x6 (wrap64 (x7 + 1)) x1000 bt249.2.2.2.2.1 bt249.2.2.2.2.2) else (spec_l1Cur_poly.l0 k x1 x5 x6 (wrap64 (x7 + 1)) x1000 bt249.2.2.2.2.1 bt249.2.2.2.2.2)))) else ((spec_l1Cur_one.f x1000 x1001 x1002 24).bind fun bt246 => (if bt246.1 = true then (some (([] : List (S51)), bt246.2.1, bt246.2.2)) else (some (x5, bt246.2.1, bt246.2.2))))
end
def spec_l1Cur_poly.f (k : Nat) (s0_0 : List Int) (s0_1 : Int) (s0_2 : Int) (a1 : Int) : Option ((List (S51)) × Int × Int) := (spec_l1Cur_pick.f s0_0 s0_1 s0_2 4).bind fun bt240 => ((spec_l1Cur_one.f s0_0 bt240.2.1 bt240.2.2 20).bind fun bt243 => (if bt243.1 = true then (spec_l1Cur_poly.j0 k a1 ([] : List (S51)) 24 s0_0 bt243.2.1 bt243.2.2) else (spec_l1Cur_poly.j0 k a1 ([] : List (S51)) (wrap64 (1 + bt240.1)) s0_0 bt243.2.1 bt243.2.2)))
theorem spec_l1Cur_poly.mono_l : ∀ k, (∀ y0 y1 y2 y3 y4 y5, LeO (spec_l1Cur_poly.j0 k y0 y1 y2 y3 y4 y5) (spec_l1Cur_poly.j0 (k + 1) y0 y1 y2 y3 y4 y5)) ∧ (∀ y0 y1 y2 y3 y4 y5 y6, LeO (spec_l1Cur_poly.l0 k y0 y1 y2 y3 y4 y5 y6) (spec_l1Cur_poly.l0 (k + 1) y0 y1 y2 y3 y4 y5 y6))
  | 0 => ⟨fun _ _ _ _ _ _ r h => by simp [spec_l1Cur_poly.j0] at h, fun _ _ _ _ _ _ _ r h => by simp [spec_l1Cur_poly.l0] at h⟩
  | k + 1 => by
    obtain ⟨ih0, ih1⟩ := spec_l1Cur_poly.mono_l k
    refine ⟨?_, ?_⟩
    · intro y0 y1 y2 y3 y4 y5
      unfold spec_l1Cur_poly.j0
      repeat' first
      | (with_reducible exact ih0 _ _ _ _ _ _)
      | (with_reducible exact ih1 _ _ _ _ _ _ _)
      | (with_reducible exact spec_l1Cur_term.mono _ _ _ _ _)
      | (with_reducible exact spec_poAdd.mono _ _ _)
      | (with_reducible exact LeO.refl _)
      | (with_reducible exact LeO.none _)
      | (with_reducible refine LeO.ite ?_ ?_)
      | (with_reducible refine LeO.bind ?_ (fun _ => ?_))
      | exact ih0 _ _ _ _ _ _
      | exact ih1 _ _ _ _ _ _ _
      | exact spec_l1Cur_term.mono _ _ _ _ _
      | exact spec_poAdd.mono _ _ _
      | exact LeO.none _
      | refine LeO.ite ?_ ?_
      | refine LeO.bind ?_ (fun _ => ?_)
    · intro y0 y1 y2 y3 y4 y5 y6
      unfold spec_l1Cur_poly.l0
      repeat' first
      | (with_reducible exact ih0 _ _ _ _ _ _)
      | (with_reducible exact ih1 _ _ _ _ _ _ _)
      | (with_reducible exact spec_l1Cur_term.mono _ _ _ _ _)
      | (with_reducible exact spec_poAdd.mono _ _ _)
      | (with_reducible exact LeO.refl _)
      | (with_reducible exact LeO.none _)
      | (with_reducible refine LeO.ite ?_ ?_)
      | (with_reducible refine LeO.bind ?_ (fun _ => ?_))
      | exact ih0 _ _ _ _ _ _
      | exact ih1 _ _ _ _ _ _ _
      | exact spec_l1Cur_term.mono _ _ _ _ _
      | exact spec_poAdd.mono _ _ _
      | exact LeO.none _
      | refine LeO.ite ?_ ?_
      | refine LeO.bind ?_ (fun _ => ?_)
theorem spec_l1Cur_poly.mono : ∀ a0 a1 a2 a3 k, LeO (spec_l1Cur_poly.f k a0 a1 a2 a3) (spec_l1Cur_poly.f (k + 1) a0 a1 a2 a3) := by
  intro a0 a1 a2 a3 k
  obtain ⟨ih0, ih1⟩ := spec_l1Cur_poly.mono_l k
  unfold spec_l1Cur_poly.f
  repeat' first
      | (with_reducible exact ih0 _ _ _ _ _ _)
      | (with_reducible exact ih1 _ _ _ _ _ _ _)
      | (with_reducible exact spec_l1Cur_term.mono _ _ _ _ _)
      | (with_reducible exact spec_poAdd.mono _ _ _)
      | (with_reducible exact LeO.refl _)
      | (with_reducible exact LeO.none _)
      | (with_reducible refine LeO.ite ?_ ?_)
      | (with_reducible refine LeO.bind ?_ (fun _ => ?_))
      | exact ih0 _ _ _ _ _ _
      | exact ih1 _ _ _ _ _ _ _
      | exact spec_l1Cur_term.mono _ _ _ _ _
      | exact spec_poAdd.mono _ _ _
      | exact LeO.none _
      | refine LeO.ite ?_ ?_
      | refine LeO.bind ?_ (fun _ => ?_)
/-! spec_l1Cur_anyPoly -/
mutual
def spec_l1Cur_anyPoly.l0 : Nat → List (S51) → Int → List Int → Int → Int → Option ((List (S51)) × Int × Int)
  | 0, _, _, _, _, _ => none
  | k + 1, x5, x6, x1000, x1001, x1002 => if x6 ≤ 4 then (spec_l1Cur_anyPoly.l1 k x5 x6 0 x1000 x1001 x1002) else (some (x5, x1001, x1002))
def spec_l1Cur_anyPoly.l1 : Nat → List (S51) → Int → Int → List Int → Int → Int → Option ((List (S51)) × Int × Int)
  | 0, _, _, _, _, _, _ => none
  | k + 1, x5, x6, x7, x1000, x1001, x1002 => if (wrap64 (x6 + x7)) ≤ 4 then (spec_l1Cur_anyPoly.l2 k x5 x6 x7 0 x1000 x1001 x1002) else (spec_l1Cur_anyPoly.l0 k x5 (wrap64 (x6 + 1)) x1000 x1001 x1002)
def spec_l1Cur_anyPoly.l2 : Nat → List (S51) → Int → Int → Int → List Int → Int → Int → Option ((List (S51)) × Int × Int)
  | 0, _, _, _, _, _, _, _ => none
  | k + 1, x5, x6, x7, x8, x1000, x1001, x1002 => if (wrap64 ((wrap64 (x6 + x7)) + x8)) ≤ 4 then ((spec_l1Cur_pick.f x1000 x1001 x1002 2).bind fun bt297 => (if (x5.length : Int) < (wrap64 (20 + bt297.1)) then (if x5.length < 4398046511104 then (spec_l1Cur_anyPoly.l2 k (x5 ++ [(⟨1, x6, x7, x8⟩ : S51)]) x6 x7 (wrap64 (x8 + 1)) x1000 bt297.2.1 bt297.2.2) else (none)) else (spec_l1Cur_anyPoly.l1 k x5 x6 (wrap64 (x7 + 1)) x1000 bt297.2.1 bt297.2.2))) else (spec_l1Cur_anyPoly.l1 k x5 x6 (wrap64 (x7 + 1)) x1000 x1001 x1002)
end
def spec_l1Cur_anyPoly.f (k : Nat) (s0_0 : List Int) (s0_1 : Int) (s0_2 : Int) (a1 : Int) : Option ((List (S51)) × Int × Int) := (spec_l1Cur_poly.f k s0_0 s0_1 s0_2 a1).bind fun bt262 => ((spec_l1Cur_pick.f s0_0 bt262.2.1 bt262.2.2 40).bind fun bt267 => (if bt267.1 = 0 then ((spec_l1Cur_among.f s0_0 bt267.2.1 bt267.2.2 (([0, 1, 1001, (-1001)] : List Int))).bind fun bt273 => (if bt262.1.length < 4398046511104 then (some ((bt262.1 ++ [(⟨bt273.1, 4, 0, 0⟩ : S51)]), bt273.2.1, bt273.2.2)) else (none))) else (if bt267.1 = 1 then ((spec_l1Cur_among.f s0_0 bt267.2.1 bt267.2.2 (([5, (-1), 4611686018427387904] : List Int))).bind fun bt282 => ((spec_l1Cur_among.f s0_0 bt282.2.1 bt282.2.2 (([0, (-1), 4611686018427387904] : List Int))).bind fun bt288 => (if bt262.1.length < 4398046511104 then (some ((bt262.1 ++ [(⟨1, bt282.1, bt288.1, 0⟩ : S51)]), bt288.2.1, bt288.2.2)) else (none)))) else (if bt267.1 = 2 then (if bt262.1.length + bt262.1.length < 4398046511104 then (some ((bt262.1 ++ bt262.1), bt267.2.1, bt267.2.2)) else (none)) else (if bt267.1 = 3 then (spec_l1Cur_anyPoly.l0 k ([] : List (S51)) 0 s0_0 bt267.2.1 bt267.2.2) else (some (bt262.1, bt267.2.1, bt267.2.2)))))))
theorem spec_l1Cur_anyPoly.mono_l : ∀ k, (∀ y0 y1 y2 y3 y4, LeO (spec_l1Cur_anyPoly.l0 k y0 y1 y2 y3 y4) (spec_l1Cur_anyPoly.l0 (k + 1) y0 y1 y2 y3 y4)) ∧ (∀ y0 y1 y2 y3 y4 y5, LeO (spec_l1Cur_anyPoly.l1 k y0 y1 y2 y3 y4 y5) (spec_l1Cur_anyPoly.l1 (k + 1) y0 y1 y2 y3 y4 y5)) ∧ (∀ y0 y1 y2 y3 y4 y5 y6, LeO (spec_l1Cur_anyPoly.l2 k y0 y1 y2 y3 y4 y5 y6) (spec_l1Cur_anyPoly.l2 (k + 1) y0 y1 y2 y3 y4 y5 y6))
  | 0 => ⟨fun _ _ _ _ _ r h => by simp [spec_l1Cur_anyPoly.l0] at h, fun _ _ _ _ _ _ r h => by simp [spec_l1Cur_anyPoly.l1] at h, fun _ _ _ _ _ _ _ r h => by simp [spec_l1Cur_anyPoly.l2] at h⟩
  | k + 1 => by
    obtain ⟨ih0, ih1, ih2⟩ := spec_l1Cur_anyPoly.mono_l k
    refine ⟨?_, ?_, ?_⟩
    · intro y0 y1 y2 y3 y4
      unfold spec_l1Cur_anyPoly.l0
      repeat' first
      | (with_reducible exact ih0 _ _ _ _ _)
      | (with_reducible exact ih1 _ _ _ _ _ _)
      | (with_reducible exact ih2 _ _ _ _ _ _ _)
      | (with_reducible exact spec_l1Cur_poly.mono _ _ _ _ _)
      | (with_reducible exact LeO.refl _)
      | (with_reducible exact LeO.none _)
      | (with_reducible refine LeO.ite ?_ ?_)
      | (with_reducible refine LeO.bind ?_ (fun _ => ?_))
      | exact ih0 _ _ _ _ _
      | exact ih1 _ _ _ _ _ _
      | exact ih2 _ _ _ _ _ _ _
      | exact spec_l1Cur_poly.mono _ _ _ _ _
      | exact LeO.none _
      | refine LeO.ite ?_ ?_
      | refine LeO.bind ?_ (fun _ => ?_)
    · intro y0 y1 y2 y3 y4 y5
      unfold spec_l1Cur_anyPoly.l1
      repeat' first
      | (with_reducible exact ih0 _ _ _ _ _)
      | (with_reducible exact ih1 _ _ _ _ _ _)
      | (with_reducible exact ih2 _ _ _ _ _ _ _)
      | (with_reducible exact spec_l1Cur_poly.mono _ _ _ _ _)
      | (with_reducible exact LeO.refl _)
      | (with_reducible exact LeO.none _)
      | (with_reducible refine LeO.ite ?_ ?_)
      | (with_reducible refine LeO.bind ?_ (fun _ => ?_))
      | exact ih0 _ _ _ _ _
      | exact ih1 _ _ _ _ _ _
      | exact ih2 _ _ _ _ _ _ _
      | exact spec_l1Cur_poly.mono _ _ _ _ _
      | exact LeO.none _
      | refine LeO.ite ?_ ?_
      | refine LeO.bind ?_ (fun _ => ?_)
    · intro y0 y1 y2 y3 y4 y5 y6
      unfold spec_l1Cur_anyPoly.l2
      repeat' first
      | (with_reducible exact ih0 _ _ _ _ _)
      | (with_reducible exact ih1 _ _ _ _ _ _)
      | (with_reducible exact ih2 _ _ _ _ _ _ _)
      | (with_reducible exact spec_l1Cur_poly.mono _ _ _ _ _)
      | (with_reducible exact LeO.refl _)
      | (with_reducible exact LeO.none _)
      | (with_reducible refine LeO.ite ?_ ?_)
      | (with_reducible refine LeO.bind ?_ (fun _ => ?_))
      | exact ih0 _ _ _ _ _
      | exact ih1 _ _ _ _ _ _
      | exact ih2 _ _ _ _ _ _ _
      | exact spec_l1Cur_poly.mono _ _ _ _ _
      | exact LeO.none _
      | refine LeO.ite ?_ ?_
      | refine LeO.bind ?_ (fun _ => ?_)
/-! spec_poMul -/
mutual
def spec_poMul.l0 : Nat → List (S51) → List (S51) → List (S51) → Int → Int → Option ((List (S51)) × Bool)
  | 0, _, _, _, _, _ => none
  | k + 1, x1, x6, x11, x12, x13 => if x13 < x12 then (if 0 ≤ x13 then (if x13 < (x11.length : Int) then (spec_poMul.l1 k x1 x6 x11 x12 x13 x1 (x1.length : Int) 0 ((rd_T51 x11 x13).f0) ((rd_T51 x11 x13).f1) ((rd_T51 x11 x13).f2) ((rd_T51 x11 x13).f3)) else (none)) else (none)) else ((spec_poSum.f k x6).bind fun bt303 => (some (bt303.1, bt303.2)))
def spec_poMul.l1 : Nat → List (S51) → List (S51) → List (S51) → Int → Int → List (S51) → Int → Int → Int → Int → Int → Int → Option ((List (S51)) × Bool)
  | 0, _, _, _, _, _, _, _, _, _, _, _, _ => none
  | k + 1, x1, x6, x11, x12, x13, x17, x18, x19, x309000, x309001, x309002, x309003 => if x19 < x18 then (if 0 ≤ x19 then (if x19 < (x17.length : Int) then (if x6.length < 4398046511104 then (spec_poMul.l1 k x1 (x6 ++ [(⟨wrap64 (x309000 * ((rd_T51 x17 x19).f0)), wrap64 (x309001 + ((rd_T51 x17 x19).f1)), wrap64 (x309002 + ((rd_T51 x17 x19).f2)), wrap64 (x309003 + ((rd_T51 x17 x19).f3))⟩ : S51)]) x11 x12 x13 x17 x18 (wrap64 (x19 + 1)) x309000 x309001 x309002 x309003) else (none)) else (none)) else (none)) else (spec_poMul.l0 k x1 x6 x11 x12 (wrap64 (x13 + 1)))
end
def spec_poMul.f (k : Nat) (l0 : List (S51)) (l1 : List (S51)) : Option ((List (S51)) × Bool) := spec_poMul.l0 k l1 ([] : List (S51)) l0 (l0.length : Int) 0
/-! spec_DrawAddPoly -/
def spec_DrawAddPoly.j0 : Nat → Int → List (S51) → Bool → List Int → Int → Int → Option ((List (S51)) × (List (S51)))
  | 0, _, _, _, _, _, _ => none
  | k + 1, x5, x6, x23, x315000, x315001, x315002 => if x23 = true then ((spec_poMul.f k x6 (([(⟨(-1), 0, 0, 0⟩ : S51)] : List (S51)))).bind fun bt330 => (some (x6, bt330.1))) else ((spec_l1Cur_anyPoly.f k x315000 x315001 x315002 x5).bind fun bt334 => (some (x6, bt334.1)))
def spec_DrawAddPoly.f (k : Nat) (l0 : List Int) : Option ((List (S51)) × (List (S51))) := (spec_l1Cur_pick.f l0 0 0 3).bind fun bt315 => ((spec_l1Cur_anyPoly.f k l0 bt315.2.1 bt315.2.2 (wrap64 (1 + bt315.1))).bind fun bt318 => ((spec_l1Cur_one.f l0 bt318.2.1 bt318.2.2 8).bind fun bt323 => (if bt323.1 = true then ((spec_poGood.f k bt318.1).bind fun t326 => (spec_DrawAddPoly.j0 k (wrap64 (1 + bt315.1)) bt318.1 t326 l0 bt323.2.1 bt323.2.2)) else (spec_DrawAddPoly.j0 k (wrap64 (1 + bt315.1)) bt318.1 false l0 bt323.2.1 bt323.2.2))))
/-! impl_inside -/
def impl_inside.f (a0 : Int) (a1 : Int) (a2 : Int) : Option (Bool) := if a0 ≥ a1 then (some (decide (a0 ≤ a2))) else (some false)
/-! impl_Term_degree -/
def impl_Term_degree.f (a0_0 : Int) (a0_1 : Int) (a0_2 : Int) (a0_3 : Int) : Option (Int) := some (wrap64 ((wrap64 (a0_1 + a0_2)) + a0_3))
/-! impl_hasDegree -/
def impl_hasDegree.f (a0_0 : Int) (a0_1 : Int) (a0_2 : Int) (a0_3 : Int) : Option (Bool) := (impl_inside.f a0_1 0 4).bind fun t341 => (if t341 = true then ((impl_inside.f a0_2 0 4).bind fun t342 => (if t342 = true then ((impl_inside.f a0_3 0 4).bind fun t343 => (if t343 = true then ((impl_Term_degree.f a0_0 a0_1 a0_2 a0_3).bind fun t344 => (some (decide (t344 ≤ 4)))) else (some false))) else (some false))) else (some false))
/-! cmp_Or_int -/
def cmp_Or_int.l0 : Nat → Int → List Int → Int → Int → Option (Int)
  | 0, _, _, _, _ => none
  | k + 1, x3, x6, x7, x8 => if x8 < x7 then (if 0 ≤ x8 then (if x8 < (x6.length : Int) then (if (rd x6 x8) = x3 then (cmp_Or_int.l0 k x3 x6 x7 (wrap64 (x8 + 1))) else (some (rd x6 x8))) else (none)) else (none)) else (some x3)
def cmp_Or_int.f (k : Nat) (l0 : List Int) : Option (Int) := cmp_Or_int.l0 k 0 l0 (l0.length : Int) 0
/-! cmp_isNaN_int -/
def cmp_isNaN_int.f (a0 : Int) : Option (Bool) := some (a0 != a0)
/-! cmp_Compare_int -/
def cmp_Compare_int.f (a0 : Int) (a1 : Int) : Option (Int) := (cmp_isNaN_int.f a0).bind fun t346 => ((cmp_isNaN_int.f a1).bind fun t347 => (if t346 = true then (if t347 = true then (some 0) else (some (-1))) else (if t347 = true then (some 1) else (if a0 < a1 then (some (-1)) else (if a0 > a1 then (some 1) else (some 0))))))
/-! impl_compareTerms -/
def impl_compareTerms.f (k : Nat) (a0_0 : Int) (a0_1 : Int) (a0_2 : Int) (a0_3 : Int) (a1_0 : Int) (a1_1 : Int) (a1_2 : Int) (a1_3 : Int) : Option (Int) := (cmp_Compare_int.f a0_1 a1_1).bind fun t350 => ((cmp_Compare_int.f a0_2 a1_2).bind fun t351 => ((cmp_Compare_int.f a0_3 a1_3).bind fun t352 => ((cmp_Or_int.f k (([t350, t351, t352] : List Int))).bind fun t356 => (some t356))))
/-! impl_isPoly -/
def impl_isPoly.l0 : Nat → List (S51) → List (S51) → Int → Int → Option (Bool)
  | 0, _, _, _, _ => none
  | k + 1, x0, x5, x6, x7 => if x7 < x6 then (if 0 ≤ x7 then (if x7 < (x5.length : Int) then (if ((rd_T51 x5 x7).f0) = 0 then (some false) else ((impl_inside.f ((rd_T51 x5 x7).f0) (-1000) 1000).bind fun t359 => (if t359 = true then ((impl_hasDegree.f ((rd_T51 x5 x7).f0) ((rd_T51 x5 x7).f1) ((rd_T51 x5 x7).f2) ((rd_T51 x5 x7).f3)).bind fun t360 => (if t360 = true then (if x7 > 0 then (if 0 ≤ (wrap64 (x7 - 1)) then (if (wrap64 (x7 - 1)) < (x0.length : Int) then ((impl_compareTerms.f k ((rd_T51 x0 (wrap64 (x7 - 1))).f0) ((rd_T51 x0 (wrap64 (x7 - 1))).f1) ((rd_T51 x0 (wrap64 (x7 - 1))).f2) ((rd_T51 x0 (wrap64 (x7 - 1))).f3) ((rd_T51 x5 x7).f0) ((rd_T51 x5 x7).f1) ((rd_T51 x5 x7).f2) ((rd_T51 x5 x7).f3)).bind fun t362 => (if t362 ≥ 0 then (some false) else (impl_isPoly.l0 k x0 x5 x6 (wrap64 (x7 + 1))))) else (none)) else (none)) else (impl_isPoly.l0 k x0 x5 x6 (wrap64 (x7 + 1)))) else (some false))) else (some false)))) else (none)) else (none)) else (some (decide ((x0.length : Int) ≤ 20)))
def impl_isPoly.f (k : Nat) (l0 : List (S51)) : Option (Bool) := impl_isPoly.l0 k l0 l0 (l0.length : Int) 0
/-! impl_polyResult -/
def impl_polyResult.f (k : Nat) (l0 : List (S51)) : Option ((List (S51)) × Bool) := (impl_isPoly.f k l0).bind fun t363 => (if t363 = true then (some (l0, true)) else (some (([] : List (S51)), false)))
/-! impl_collect -/
-- HAND rounds=0 making=1
/-- A term, as the plain text on sums takes it. -/
def impl_collect.ops : Go.Proofs.YthanmlojikidbaaCol.Ops S51 := { c := fun s => s.f0, x := fun s => s.f1, y := fun s => s.f2, z := fun s => s.f3, st := fun s n => ⟨n, s.f1, s.f2, s.f3⟩, c_st := fun _ _ => rfl, x_st := fun _ _ => rfl, y_st := fun _ _ => rfl, z_st := fun _ _ => rfl, ext := fun s t h1 h2 h3 h4 => by cases s; cases t; simp_all }
def impl_collect.ok (l : List S51) : Bool := decide (l.length ≤ 1000000) && l.all (fun t => decide (wrap64 t.f0 = t.f0))
def impl_collect.f (l0 : List (S51)) : Option (List (S51)) := if impl_collect.ok l0 = true then some (Go.Proofs.YthanmlojikidbaaCol.sums impl_collect.ops l0) else none
/-! impl_AddPoly -/
-- HAND rounds=1 making=1
def impl_AddPoly.cat (l0 l1 : List S51) : Option (List S51) := if l0.length + l1.length < 4398046511104 then some (l0 ++ l1) else none
def impl_AddPoly.j0 : Nat → List (S51) → List (S51) → Bool → Option ((List (S51)) × Bool)
  | 0, _, _, _ => none
  | k + 1, x0, x1, x13 => if x13 = true then (some (([] : List (S51)), false)) else ((impl_AddPoly.cat x0 x1).bind fun t316 => ((impl_collect.f t316).bind fun tc => ((impl_polyResult.f k tc).bind fun bt319 => (some (bt319.1, bt319.2)))))
def impl_AddPoly.f (k : Nat) (l0 : List (S51)) (l1 : List (S51)) : Option ((List (S51)) × Bool) := (impl_isPoly.f k l0).bind fun t314 => (if t314 = true then ((impl_isPoly.f k l1).bind fun t315 => (impl_AddPoly.j0 k l0 l1 (!t315))) else (impl_AddPoly.j0 k l0 l1 true))
/-! spec_AddPoly -/
def spec_AddPoly.f (k : Nat) (l0 : List (S51)) (l1 : List (S51)) : Option ((List (S51)) × Bool) := (spec_poGood.f k l0).bind fun t365 => (if t365 = true then ((spec_poGood.f k l1).bind fun t366 => (if t366 = true then ((spec_poAdd.f k l0 l1).bind fun bt367 => (some (bt367.1, bt367.2))) else (some (([] : List (S51)), false)))) else (some (([] : List (S51)), false)))
/-! impl_multiplyTerms -/
mutual
def impl_multiplyTerms.l0 : Nat → List (S51) → List (S51) → List (S51) → Int → Int → Option ((List (S51)))
  | 0, _, _, _, _, _ => none
  | k + 1, x1, x5, x10, x11, x12 => if x12 < x11 then (if 0 ≤ x12 then (if x12 < (x10.length : Int) then (impl_multiplyTerms.l1 k x1 x5 x10 x11 x12 x1 (x1.length : Int) 0 ((rd_T51 x10 x12).f0) ((rd_T51 x10 x12).f1) ((rd_T51 x10 x12).f2) ((rd_T51 x10 x12).f3)) else (none)) else (none)) else ((impl_collect.f x5).bind fun t371 => (some t371))
def impl_multiplyTerms.l1 : Nat → List (S51) → List (S51) → List (S51) → Int → Int → List (S51) → Int → Int → Int → Int → Int → Int → Option ((List (S51)))
  | 0, _, _, _, _, _, _, _, _, _, _, _, _ => none
  | k + 1, x1, x5, x10, x11, x12, x16, x17, x18, x376000, x376001, x376002, x376003 => if x18 < x17 then (if 0 ≤ x18 then (if x18 < (x16.length : Int) then (if x5.length < 4398046511104 then (impl_multiplyTerms.l1 k x1 (x5 ++ [(⟨wrap64 (x376000 * ((rd_T51 x16 x18).f0)), wrap64 (x376001 + ((rd_T51 x16 x18).f1)), wrap64 (x376002 + ((rd_T51 x16 x18).f2)), wrap64 (x376003 + ((rd_T51 x16 x18).f3))⟩ : S51)]) x10 x11 x12 x16 x17 (wrap64 (x18 + 1)) x376000 x376001 x376002 x376003) else (none)) else (none)) else (none)) else (impl_multiplyTerms.l0 k x1 x5 x10 x11 (wrap64 (x12 + 1)))
end
def impl_multiplyTerms.f (k : Nat) (l0 : List (S51)) (l1 : List (S51)) : Option ((List (S51))) := impl_multiplyTerms.l0 k l1 ([] : List (S51)) l0 (l0.length : Int) 0
/-! impl_MultiplyPoly -/
def impl_MultiplyPoly.j0 : Nat → List (S51) → List (S51) → Bool → Option ((List (S51)) × Bool)
  | 0, _, _, _ => none
  | k + 1, x0, x1, x13 => if x13 = true then (some (([] : List (S51)), false)) else ((impl_multiplyTerms.f k x0 x1).bind fun t383 => ((impl_polyResult.f k t383).bind fun bt386 => (some (bt386.1, bt386.2))))
def impl_MultiplyPoly.f (k : Nat) (l0 : List (S51)) (l1 : List (S51)) : Option ((List (S51)) × Bool) := (impl_isPoly.f k l0).bind fun t381 => (if t381 = true then ((impl_isPoly.f k l1).bind fun t382 => (impl_MultiplyPoly.j0 k l0 l1 (!t382))) else (impl_MultiplyPoly.j0 k l0 l1 true))
/-! spec_MultiplyPoly -/
def spec_MultiplyPoly.f (k : Nat) (l0 : List (S51)) (l1 : List (S51)) : Option ((List (S51)) × Bool) := (spec_poGood.f k l0).bind fun t390 => (if t390 = true then ((spec_poGood.f k l1).bind fun t391 => (if t391 = true then ((spec_poMul.f k l0 l1).bind fun bt392 => (some (bt392.1, bt392.2))) else (some (([] : List (S51)), false)))) else (some (([] : List (S51)), false)))
/-! laws_pSameTerms -/
def laws_pSameTerms.l0 : Nat → List (S51) → List (S51) → Int → Int → Option (Bool)
  | 0, _, _, _, _ => none
  | k + 1, x0, x1, x12, x13 => if x13 < x12 then (if 0 ≤ x13 then (if x13 < (x0.length : Int) then (if x13 < (x1.length : Int) then (if (!(((rd_T51 x0 x13).f0) == ((rd_T51 x1 x13).f0)) || (!(((rd_T51 x0 x13).f1) == ((rd_T51 x1 x13).f1)) || (!(((rd_T51 x0 x13).f2) == ((rd_T51 x1 x13).f2)) || (!(((rd_T51 x0 x13).f3) == ((rd_T51 x1 x13).f3)))))) = true then (some false) else (laws_pSameTerms.l0 k x0 x1 x12 (wrap64 (x13 + 1)))) else (none)) else (none)) else (none)) else (some true)
def laws_pSameTerms.f (k : Nat) (l0 : List (S51)) (l1 : List (S51)) : Option (Bool) := if (l0.length : Int) = (l1.length : Int) then (laws_pSameTerms.l0 k l0 l1 (l0.length : Int) 0) else (some false)
/-! impl_ScalePoly -/
def impl_ScalePoly.j0 : Nat → List (S51) → Int → Bool → Option ((List (S51)) × Bool)
  | 0, _, _, _ => none
  | k + 1, x0, x1, x13 => if x13 = true then (some (([] : List (S51)), false)) else ((impl_multiplyTerms.f k x0 (([(⟨x1, 0, 0, 0⟩ : S51)] : List (S51)))).bind fun t403 => ((impl_polyResult.f k t403).bind fun bt406 => (some (bt406.1, bt406.2))))
def impl_ScalePoly.f (k : Nat) (l0 : List (S51)) (a1 : Int) : Option ((List (S51)) × Bool) := (impl_isPoly.f k l0).bind fun t398 => (if t398 = true then ((impl_inside.f a1 (-1000) 1000).bind fun t399 => (impl_ScalePoly.j0 k l0 a1 (!t399))) else (impl_ScalePoly.j0 k l0 a1 true))
/-! impl_IsPoly -/
def impl_IsPoly.f (k : Nat) (l0 : List (S51)) : Option (Bool) := (impl_isPoly.f k l0).bind fun t410 => (some t410)
/-! spec_poUnknown -/
def spec_poUnknown.f (a0 : Int) : Option (Bool) := (spec_l1In.f a0 0 2).bind fun t411 => (some t411)
/-! spec_poPower -/
def spec_poPower.f (a0_0 : Int) (a0_1 : Int) (a0_2 : Int) (a0_3 : Int) (a1 : Int) : Option (Int) := if a1 = 0 then (some a0_1) else (if a1 = 1 then (some a0_2) else (some a0_3))
/-! spec_poDerive -/
def spec_poDerive.l0 : Nat → Int → List (S51) → List (S51) → Int → Int → Option ((List (S51)))
  | 0, _, _, _, _, _ => none
  | k + 1, x1, x5, x10, x11, x12 => if x12 < x11 then (if 0 ≤ x12 then (if x12 < (x10.length : Int) then ((spec_poPower.f ((rd_T51 x10 x12).f0) ((rd_T51 x10 x12).f1) ((rd_T51 x10 x12).f2) ((rd_T51 x10 x12).f3) x1).bind fun t415 => (if t415 > 0 then ((spec_poWith.f ((rd_T51 x10 x12).f0) ((rd_T51 x10 x12).f1) ((rd_T51 x10 x12).f2) ((rd_T51 x10 x12).f3) x1 (wrap64 (t415 - 1))).bind fun bt416 => (if x5.length < 4398046511104 then (spec_poDerive.l0 k x1 (x5 ++ [(⟨wrap64 (bt416.1 * t415), bt416.2.1, bt416.2.2.1, bt416.2.2.2⟩ : S51)]) x10 x11 (wrap64 (x12 + 1))) else (none))) else (spec_poDerive.l0 k x1 x5 x10 x11 (wrap64 (x12 + 1))))) else (none)) else (none)) else (some x5)
def spec_poDerive.f (k : Nat) (l0 : List (S51)) (a1 : Int) : Option ((List (S51))) := spec_poDerive.l0 k a1 ([] : List (S51)) l0 (l0.length : Int) 0
/-! spec_DerivePoly -/
def spec_DerivePoly.j0 : Nat → List (S51) → Int → Bool → Option ((List (S51)) × Bool)
  | 0, _, _, _ => none
  | k + 1, x0, x1, x13 => if x13 = true then (some (([] : List (S51)), false)) else ((spec_poDerive.f k x0 x1).bind fun t426 => ((spec_poSum.f k t426).bind fun bt429 => (some (bt429.1, bt429.2))))
def spec_DerivePoly.f (k : Nat) (l0 : List (S51)) (a1 : Int) : Option ((List (S51)) × Bool) := (spec_poGood.f k l0).bind fun t424 => (if t424 = true then ((spec_poUnknown.f a1).bind fun t425 => (spec_DerivePoly.j0 k l0 a1 (!t425))) else (spec_DerivePoly.j0 k l0 a1 true))
/-! impl_isUnknown -/
def impl_isUnknown.f (a0 : Int) : Option (Bool) := (impl_inside.f a0 0 2).bind fun t433 => (some t433)
/-! impl_derive -/
-- HAND rounds=1 making=1
def impl_derive.tm (t : S51) (a : Int) : S51 := if a = 0 then ⟨wrap64 (t.f0 * t.f1), mx (wrap64 (t.f1 - 1)) 0, t.f2, t.f3⟩ else (if a = 1 then ⟨wrap64 (t.f0 * t.f2), t.f1, mx (wrap64 (t.f2 - 1)) 0, t.f3⟩ else ⟨wrap64 (t.f0 * t.f3), t.f1, t.f2, mx (wrap64 (t.f3 - 1)) 0⟩)
def impl_derive.l0 : Nat → List S51 → Int → List S51 → Int → Option (List S51)
  | 0, _, _, _, _ => none
  | k + 1, l, a, x, i => if i < (l.length : Int) then (if 0 ≤ i then (if x.length < 4398046511104 then impl_derive.l0 k l a (x ++ [impl_derive.tm (rd_T51 l i) a]) (wrap64 (i + 1)) else none) else none) else impl_collect.f x
def impl_derive.f (k : Nat) (l0 : List (S51)) (a1 : Int) : Option (List (S51)) := if 0 ≤ a1 then (if a1 ≤ 2 then impl_derive.l0 k l0 a1 [] 0 else none) else none
/-! impl_DerivePoly -/
def impl_DerivePoly.j0 : Nat → List (S51) → Int → Bool → Option ((List (S51)) × Bool)
  | 0, _, _, _ => none
  | k + 1, x0, x1, x13 => if x13 = true then (some (([] : List (S51)), false)) else ((impl_derive.f k x0 x1).bind fun t436 => ((impl_polyResult.f k t436).bind fun bt439 => (some (bt439.1, bt439.2))))
def impl_DerivePoly.f (k : Nat) (l0 : List (S51)) (a1 : Int) : Option ((List (S51)) × Bool) := (impl_isPoly.f k l0).bind fun t434 => (if t434 = true then ((impl_isUnknown.f a1).bind fun t435 => (impl_DerivePoly.j0 k l0 a1 (!t435))) else (impl_DerivePoly.j0 k l0 a1 true))
/-! spec_DrawNormalPoly -/
mutual
def spec_DrawNormalPoly.j0 : Nat → Int → List (S51) → Int → List Int → Int → Int → Option ((List (S51)))
  | 0, _, _, _, _, _, _ => none
  | k + 1, x4, x5, x6, x444000, x444001, x444002 => spec_DrawNormalPoly.l0 k x4 x5 x6 x444000 x444001 x444002
def spec_DrawNormalPoly.l0 : Nat → Int → List (S51) → Int → List Int → Int → Int → Option ((List (S51)))
  | 0, _, _, _, _, _, _ => none
  | k + 1, x4, x5, x6, x444000, x444001, x444002 => if (x5.length : Int) < x6 then ((spec_l1Cur_term.f k x444000 x444001 x444002 x4).bind fun bt456 => (if (x5.length : Int) > 0 then ((spec_l1Cur_one.f x444000 bt456.2.2.2.2.1 bt456.2.2.2.2.2 3).bind fun bt463 => (spec_DrawNormalPoly.j2 k x4 x5 x6 (x5.length : Int) bt463.1 x444000 bt463.2.1 bt463.2.2 bt456.1 bt456.2.1 bt456.2.2.1 bt456.2.2.2.1)) else (spec_DrawNormalPoly.j2 k x4 x5 x6 (x5.length : Int) false x444000 bt456.2.2.2.2.1 bt456.2.2.2.2.2 bt456.1 bt456.2.1 bt456.2.2.1 bt456.2.2.2.1))) else (if x6 > 0 then ((spec_l1Cur_one.f x444000 x444001 x444002 16).bind fun bt482 => (spec_DrawNormalPoly.j3 k x5 bt482.1 x444000 bt482.2.1 bt482.2.2)) else (spec_DrawNormalPoly.j3 k x5 false x444000 x444001 x444002))
def spec_DrawNormalPoly.j2 : Nat → Int → List (S51) → Int → Int → Bool → List Int → Int → Int → Int → Int → Int → Int → Option ((List (S51)))
  | 0, _, _, _, _, _, _, _, _, _, _, _, _ => none
  | k + 1, x4, x5, x6, x8, x36, x444000, x444001, x444002, x463000, x463001, x463002, x463003 => if x36 = true then ((spec_l1Cur_pick.f x444000 x444001 x444002 x8).bind fun bt466 => (if 0 ≤ bt466.1 then (if bt466.1 < (x5.length : Int) then ((spec_l1Cur_among.f x444000 bt466.2.1 bt466.2.2 (([wrap64 (-((rd_T51 x5 bt466.1).f0)), (rd_T51 x5 bt466.1).f0, 0] : List Int))).bind fun bt473 => (if x5.length < 4398046511104 then (spec_DrawNormalPoly.l0 k x4 (x5 ++ [(⟨bt473.1, (rd_T51 x5 bt466.1).f1, (rd_T51 x5 bt466.1).f2, (rd_T51 x5 bt466.1).f3⟩ : S51)]) x6 x444000 bt473.2.1 bt473.2.2) else (none))) else (none)) else (none))) else (if x5.length < 4398046511104 then (spec_DrawNormalPoly.l0 k x4 (x5 ++ [(⟨x463000, x463001, x463002, x463003⟩ : S51)]) x6 x444000 x444001 x444002) else (none))
def spec_DrawNormalPoly.j3 : Nat → List (S51) → Bool → List Int → Int → Int → Option ((List (S51)))
  | 0, _, _, _, _, _ => none
  | k + 1, x5, x61, x444000, x444001, x444002 => if x61 = true then ((spec_l1Cur_among.f x444000 x444001 x444002 (([1, 1001] : List Int))).bind fun bt488 => ((spec_l1Cur_among.f x444000 bt488.2.1 bt488.2.2 (([5, 1, (-1)] : List Int))).bind fun bt494 => (if 0 < (x5.length : Int) then (some (x5.set (0 : Int).toNat (⟨bt488.1, bt494.1, 0, 0⟩ : S51))) else (none)))) else (some x5)
end
def spec_DrawNormalPoly.f (k : Nat) (l0 : List Int) : Option ((List (S51))) := (spec_l1Cur_pick.f l0 0 0 3).bind fun bt444 => ((spec_l1Cur_pick.f l0 bt444.2.1 bt444.2.2 8).bind fun bt447 => ((spec_l1Cur_one.f l0 bt447.2.1 bt447.2.2 16).bind fun bt450 => (if bt450.1 = true then ((spec_l1Cur_pick.f l0 bt450.2.1 bt450.2.2 2).bind fun bt453 => (spec_DrawNormalPoly.j0 k (wrap64 (1 + bt444.1)) ([] : List (S51)) (wrap64 (40 + bt453.1)) l0 bt453.2.1 bt453.2.2)) else (spec_DrawNormalPoly.j0 k (wrap64 (1 + bt444.1)) ([] : List (S51)) bt447.1 l0 bt450.2.1 bt450.2.2))))
/-! impl_NormalPoly -/
def impl_NormalPoly.l0 : Nat → List (S51) → List (S51) → Int → Int → Option ((List (S51)) × Bool)
  | 0, _, _, _, _ => none
  | k + 1, x0, x9, x10, x11 => if x11 < x10 then (if 0 ≤ x11 then (if x11 < (x9.length : Int) then ((impl_inside.f ((rd_T51 x9 x11).f0) (-1000) 1000).bind fun t507 => (if t507 = true then ((impl_hasDegree.f ((rd_T51 x9 x11).f0) ((rd_T51 x9 x11).f1) ((rd_T51 x9 x11).f2) ((rd_T51 x9 x11).f3)).bind fun t508 => (if t508 = true then (impl_NormalPoly.l0 k x0 x9 x10 (wrap64 (x11 + 1))) else (some (([] : List (S51)), false)))) else (some (([] : List (S51)), false)))) else (none)) else (none)) else ((impl_collect.f x0).bind fun t498 => ((impl_polyResult.f k t498).bind fun bt501 => (some (bt501.1, bt501.2))))
def impl_NormalPoly.f (k : Nat) (l0 : List (S51)) : Option ((List (S51)) × Bool) := if (l0.length : Int) > 40 then (some (([] : List (S51)), false)) else (impl_NormalPoly.l0 k l0 l0 (l0.length : Int) 0)
/-! spec_NormalPoly -/
def spec_NormalPoly.l0 : Nat → List (S51) → List (S51) → Int → Int → Option ((List (S51)) × Bool)
  | 0, _, _, _, _ => none
  | k + 1, x0, x9, x10, x11 => if x11 < x10 then (if 0 ≤ x11 then (if x11 < (x9.length : Int) then ((spec_poTerm.f ((rd_T51 x9 x11).f0) ((rd_T51 x9 x11).f1) ((rd_T51 x9 x11).f2) ((rd_T51 x9 x11).f3)).bind fun t511 => (if t511 = true then (spec_NormalPoly.l0 k x0 x9 x10 (wrap64 (x11 + 1))) else (some (([] : List (S51)), false)))) else (none)) else (none)) else ((spec_poSum.f k x0).bind fun bt512 => (some (bt512.1, bt512.2)))
def spec_NormalPoly.f (k : Nat) (l0 : List (S51)) : Option ((List (S51)) × Bool) := if (l0.length : Int) > 40 then (some (([] : List (S51)), false)) else (spec_NormalPoly.l0 k l0 l0 (l0.length : Int) 0)
/-! spec_l1Cur_unknownOf -/
def spec_l1Cur_unknownOf.f (s0_0 : List Int) (s0_1 : Int) (s0_2 : Int) : Option (Int × Int × Int) := (spec_l1Cur_among.f s0_0 s0_1 s0_2 (([(-1), 3, 4611686018427387904] : List Int))).bind fun bt519 => ((spec_l1Cur_among.f s0_0 bt519.2.1 bt519.2.2 (([0, 1, 2, 0, 1, 2, 0, 1, bt519.1] : List Int))).bind fun bt525 => (some (bt525.1, bt525.2.1, bt525.2.2)))
/-! spec_DrawDerivePoly -/
def spec_DrawDerivePoly.f (k : Nat) (l0 : List Int) : Option ((List (S51)) × Int) := (spec_l1Cur_pick.f l0 0 0 3).bind fun bt529 => ((spec_l1Cur_anyPoly.f k l0 bt529.2.1 bt529.2.2 (wrap64 (1 + bt529.1))).bind fun bt532 => ((spec_l1Cur_unknownOf.f l0 bt532.2.1 bt532.2.2).bind fun bt537 => (some (bt532.1, bt537.1))))
/-! spec_DrawScalePoly -/
def spec_DrawScalePoly.f (k : Nat) (l0 : List Int) : Option ((List (S51)) × Int) := (spec_l1Cur_pick.f l0 0 0 3).bind fun bt541 => ((spec_l1Cur_anyPoly.f k l0 bt541.2.1 bt541.2.2 (wrap64 (1 + bt541.1))).bind fun bt544 => ((spec_l1Cur_among.f l0 bt544.2.1 bt544.2.2 (([1001, (-9223372036854775808)] : List Int))).bind fun bt552 => ((spec_l1Cur_among.f l0 bt552.2.1 bt552.2.2 (([0, 1, (-1), 2, 7, (-40), 1000, (-1000), bt552.1] : List Int))).bind fun bt558 => (some (bt544.1, bt558.1)))))
/-! spec_ScalePoly -/
def spec_ScalePoly.j0 : Nat → List (S51) → Int → Bool → Option ((List (S51)) × Bool)
  | 0, _, _, _ => none
  | k + 1, x0, x1, x13 => if x13 = true then (some (([] : List (S51)), false)) else (if x1 = 0 then (some (([] : List (S51)), true)) else ((spec_poMul.f k x0 (([(⟨x1, 0, 0, 0⟩ : S51)] : List (S51)))).bind fun bt566 => (some (bt566.1, bt566.2))))
def spec_ScalePoly.f (k : Nat) (l0 : List (S51)) (a1 : Int) : Option ((List (S51)) × Bool) := (spec_poGood.f k l0).bind fun t561 => (if t561 = true then ((spec_l1In.f a1 (-1000) 1000).bind fun t562 => (spec_ScalePoly.j0 k l0 a1 (!t562))) else (spec_ScalePoly.j0 k l0 a1 true))
/-! laws_FnPolynomials -/
-- HAND rounds=1 making=1
abbrev laws_FnPolynomials.same (K : Nat) (l r : List S51) : Prop := laws_pSameTerms.f K l r = some true
/-- What is drawn and what the two sides make of it. -/
def laws_FnPolynomials.part1 (K : Nat) (l0 : List Int) (p q s m : List S51) (b1 b2 : Bool) : Prop := spec_DrawAddPoly.f K l0 = some (p, q) ∧ impl_AddPoly.f K p q = some (s, b1) ∧ spec_AddPoly.f K p q = some (s, b1) ∧ impl_MultiplyPoly.f K p q = some (m, b2) ∧ spec_MultiplyPoly.f K p q = some (m, b2) ∧ laws_FnPolynomials.same K s s ∧ laws_FnPolynomials.same K m m
def laws_FnPolynomials.part2 (K : Nat) (p q s : List S51) (b1 : Bool) : Prop := ∃ n : List S51, (b1 = true → impl_AddPoly.f K q p = some (s, true)) ∧ (b1 = true → impl_ScalePoly.f K q (-1) = some (n, true)) ∧ (b1 = true → impl_AddPoly.f K s n = some (p, true)) ∧ (b1 = true → laws_FnPolynomials.same K p p) ∧ (b1 = true → impl_IsPoly.f K s = some true)
def laws_FnPolynomials.rule (K : Nat) (p q m : List S51) (k : Int) : Prop := ∃ (a b c d e f : List S51) (x1 x2 x3 x4 x5 x6 : Bool), spec_DerivePoly.f K p k = some (a, x1) ∧ spec_DerivePoly.f K q k = some (b, x2) ∧ spec_MultiplyPoly.f K a q = some (c, x3) ∧ spec_MultiplyPoly.f K p b = some (d, x4) ∧ spec_AddPoly.f K c d = some (e, x5) ∧ impl_DerivePoly.f K m k = some (f, x6) ∧ spec_DerivePoly.f K m k = some (f, x6) ∧ laws_FnPolynomials.same K f f ∧ ((x1 && x2 && x3 && x4 && x5 && x6) = true → laws_FnPolynomials.same K e f)
def laws_FnPolynomials.part3 (K : Nat) (p q m : List S51) (b2 : Bool) : Prop := (b2 = true → impl_MultiplyPoly.f K q p = some (m, true)) ∧ (b2 = true → ∀ k : Int, 0 ≤ k → k < 3 → laws_FnPolynomials.rule K p q m k)
def laws_FnPolynomials.part4 (K : Nat) (l1 : List Int) (l n n' : List S51) (b3 b' : Bool) : Prop := spec_DrawNormalPoly.f K l1 = some l ∧ impl_NormalPoly.f K l = some (n, b3) ∧ spec_NormalPoly.f K l = some (n, b3) ∧ laws_FnPolynomials.same K n n ∧ (b3 = true → impl_NormalPoly.f K n = some (n', b')) ∧ (b3 = true → n.length ≤ 40 → b' = true ∧ laws_FnPolynomials.same K n' n)
def laws_FnPolynomials.part5 (K : Nat) (l1 : List Int) (u d : List S51) (k : Int) (b4 : Bool) : Prop := spec_DrawDerivePoly.f K l1 = some (u, k) ∧ impl_DerivePoly.f K u k = some (d, b4) ∧ spec_DerivePoly.f K u k = some (d, b4) ∧ laws_FnPolynomials.same K d d
def laws_FnPolynomials.part6 (K : Nat) (l1 : List Int) (v t : List S51) (x : Int) (b5 : Bool) : Prop := spec_DrawScalePoly.f K l1 = some (v, x) ∧ impl_ScalePoly.f K v x = some (t, b5) ∧ spec_ScalePoly.f K v x = some (t, b5) ∧ laws_FnPolynomials.same K t t
def laws_FnPolynomials.ok (K : Nat) (l0 l1 : List Int) (r : Bool) : Prop := r = true ∧ (laws_big.f l0 l1 = some true ∨ (laws_big.f l0 l1 = some false ∧ ∃ (p q s m l n n' u d v t : List S51) (kk x : Int) (b1 b2 b3 b' b4 b5 : Bool), laws_FnPolynomials.part1 K l0 p q s m b1 b2 ∧ laws_FnPolynomials.part2 K p q s b1 ∧ laws_FnPolynomials.part3 K p q m b2 ∧ laws_FnPolynomials.part4 K l1 l n n' b3 b' ∧ laws_FnPolynomials.part5 K l1 u d kk b4 ∧ laws_FnPolynomials.part6 K l1 v t x b5))
/-- A state of type 67 at block g of W; what its slices lead to came in by w0. -/
def IsS67 (w0 W : World) (g : Nat) (f0 : List Int) (f1 : Int) (f2 : Int) : Prop := ∃ A0 c0, W.heap[g]? = some (.cells #[.slice A0 f0.length c0, .int .i64 f1, .int .u64 f2] 67 (0, 0)) ∧ w0.heap.size ≤ g ∧ Kd.C (Kd.int .u8) w0 A0 f0.length f0
theorem IsS67.grown {w0 W : World} {g : Nat} {f0 : List Int} {f1 : Int} {f2 : Int} {W1 : World} {row : Option Nat} (h : IsS67 w0 W g f0 f1 f2) (hw : W.grownBy W1 row) (hne : some g ≠ row) : IsS67 w0 W1 g f0 f1 f2 := by
  obtain ⟨A0, c0, hb, hg, hr0⟩ := h
  exact ⟨A0, c0, blk_grown hb hw hne, hg, hr0⟩
theorem IsS67.kept {w0 W : World} {g : Nat} {f0 : List Int} {f1 : Int} {f2 : Int} {W1 : World} {S : Nat → Prop} (h : IsS67 w0 W g f0 f1 f2) (hk : Kept W W1 S) (hne : ¬ S g) : IsS67 w0 W1 g f0 f1 f2 := by
  obtain ⟨A0, c0, hb, hg, hr0⟩ := h
  exact ⟨A0, c0, blk_kept hb hk hne, hg, hr0⟩
theorem IsS67.below {w0 W : World} {g : Nat} {f0 : List Int} {f1 : Int} {f2 : Int} {W1 : World} (h : IsS67 w0 W g f0 f1 f2) (hw : Below W.heap.size W W1) : IsS67 w0 W1 g f0 f1 f2 := h.grown (grown_of_below hw none) (by simp)
theorem IsS67.alloc {w0 W : World} {g : Nat} {f0 : List Int} {f1 : Int} {f2 : Int} (h : IsS67 w0 W g f0 f1 f2) (o : Obj) : IsS67 w0 (W.alloc o) g f0 f1 f2 := h.below (below_alloc (Below.refl _ _) o)
theorem IsS67.drewN {w0 W : World} {g : Nat} {f0 : List Int} {f1 : Int} {f2 : Int} (h : IsS67 w0 W g f0 f1 f2) (m : Nat) : IsS67 w0 (W.drewN m) g f0 f1 f2 := h
theorem IsS67.drew {w0 W : World} {g : Nat} {f0 : List Int} {f1 : Int} {f2 : Int} (h : IsS67 w0 W g f0 f1 f2) : IsS67 w0 W.drew g f0 f1 f2 := h
theorem IsS67.at_ {w0 W : World} {g : Nat} {f0 : List Int} {f1 : Int} {f2 : Int} {w' : World} {m : Nat} (hq : W.drewN m = w') (h : IsS67 w0 W g f0 f1 f2) : IsS67 w0 w' g f0 f1 f2 := by subst hq; exact IsS67.drewN h m
theorem IsS67.apart {w0 W : World} {g : Nat} {f0 : List Int} {f1 : Int} {f2 : Int} {α : Type} {d : Kd α} {e : Nat} {base : Nat} {ok : Nat → Prop} {v : Value} {xs : List α} (h : IsS67 w0 W g f0 f1 f2) (ho : d.R e W base ok v xs) (ht : ∀ q, q ∈ e :: d.E → q ≠ 67) : d.R e W base (fun k => ok k ∧ k ≠ g) v xs := by
  obtain ⟨A0, c0, hb, hg, hr0⟩ := h
  exact Kd.R_types ho hb ht
theorem IsS67.own_ne {w0 W : World} {g : Nat} {f0 : List Int} {f1 : Int} {f2 : Int} {α : Type} {d : Kd α} {e : Nat} {base : Nat} {ok : Nat → Prop} {v : Value} {xs : List α} (h : IsS67 w0 W g f0 f1 f2) (ho : d.R e W base ok v xs) (ht : e ≠ 67) : some g ≠ v.ownBlock := by
  obtain ⟨A0, c0, hb, hg, hr0⟩ := h
  exact Kd.R_ne ho hb ht
theorem IsS67.lt {w0 W : World} {g : Nat} {f0 : List Int} {f1 : Int} {f2 : Int} (h : IsS67 w0 W g f0 f1 f2) : g < W.heap.size := by
  obtain ⟨A0, c0, hb, hg, hr0⟩ := h
  exact blk_lt hb
theorem IsS67.ge {w0 W : World} {g : Nat} {f0 : List Int} {f1 : Int} {f2 : Int} (h : IsS67 w0 W g f0 f1 f2) : w0.heap.size ≤ g := by
  obtain ⟨A0, c0, hb, hg, hr0⟩ := h
  exact hg
theorem IsS67.far {w0 W : World} {g : Nat} {f0 : List Int} {f1 : Int} {f2 : Int} {p : Addr} (h : IsS67 w0 W g f0 f1 f2) (hne : g ≠ p.block) (u : Value) : IsS67 w0 (W.setCell p u) g f0 f1 f2 := by
  obtain ⟨A0, c0, hb, hg, hr0⟩ := h
  exact ⟨A0, c0, blk_far hb hne u, hg, hr0⟩
theorem cellS67_0 {W : World} {g : Nat} {A0 : Option Addr} {c0 : Nat} {f0 : List Int} {f1 : Int} {f2 : Int} (h : W.heap[g]? = some (.cells #[.slice A0 f0.length c0, .int .i64 f1, .int .u64 f2] 67 (0, 0))) : W.cell? ⟨g, 0, none⟩ = some (.slice A0 f0.length c0) := (blk_cell h 0).trans rfl
theorem cellS67_1 {W : World} {g : Nat} {A0 : Option Addr} {c0 : Nat} {f0 : List Int} {f1 : Int} {f2 : Int} (h : W.heap[g]? = some (.cells #[.slice A0 f0.length c0, .int .i64 f1, .int .u64 f2] 67 (0, 0))) : W.cell? ⟨g, 1, none⟩ = some (.int .i64 f1) := (blk_cell h 1).trans rfl
theorem IsS67.set_1 {w0 W : World} {g : Nat} {f0 : List Int} {f1 : Int} {f2 : Int} (h : IsS67 w0 W g f0 f1 f2) (x : Int) : IsS67 w0 (W.setCell ⟨g, 1, none⟩ (.int .i64 x)) g f0 x f2 := by
  obtain ⟨A0, c0, hb, hg, hr0⟩ := h
  exact ⟨A0, c0, by simpa using blk_set hb 1 (.int .i64 x), hg, hr0⟩
theorem cellS67_2 {W : World} {g : Nat} {A0 : Option Addr} {c0 : Nat} {f0 : List Int} {f1 : Int} {f2 : Int} (h : W.heap[g]? = some (.cells #[.slice A0 f0.length c0, .int .i64 f1, .int .u64 f2] 67 (0, 0))) : W.cell? ⟨g, 2, none⟩ = some (.int .u64 f2) := (blk_cell h 2).trans rfl
theorem IsS67.set_2 {w0 W : World} {g : Nat} {f0 : List Int} {f1 : Int} {f2 : Int} (h : IsS67 w0 W g f0 f1 f2) (x : Int) : IsS67 w0 (W.setCell ⟨g, 2, none⟩ (.int .u64 x)) g f0 f1 x := by
  obtain ⟨A0, c0, hb, hg, hr0⟩ := h
  exact ⟨A0, c0, by simpa using blk_set hb 2 (.int .u64 x), hg, hr0⟩
theorem IsS67.new (w0 W : World) (A0 : Option Addr) (c0 : Nat) (f0 : List Int) (f1 : Int) (f2 : Int) (hB : Below w0.heap.size w0 W) (hr0 : Kd.C (Kd.int .u8) w0 A0 f0.length f0) : IsS67 w0 (W.alloc (.cells #[.slice A0 f0.length c0, .int .i64 f1, .int .u64 f2] 67)) W.heap.size f0 f1 f2 := ⟨A0, c0, by simpa using heap_alloc_new W _, hB.size, hr0⟩
/-! ### laws_big: function 16 -/
set_option maxHeartbeats 8000000 in
set_option maxRecDepth 100000 in
theorem laws_big.calls (A0 : Option Addr) (c0 : Nat) (l0 : List Int) (A1 : Option Addr) (c1 : Nat) (l1 : List Int) (r : Bool) (w : World) (hr0 : Kd.C (Kd.int .u8) w A0 l0.length l0) (hc0 : l0.length ≤ c0) (hr1 : Kd.C (Kd.int .u8) w A1 l1.length l1) (hc1 : l1.length ≤ c1) (h : laws_big.f l0 l1 = some r) :
  Calls Try.prog 16 #[.slice A0 l0.length c0, .slice A1 l1.length c1] w fun e w' => e = .returned (.bool r) ∧ Drawn0 w w' := by
 have HR0 := Aside0.mk hr0
 have HC0 := Aside0.mk hc0
 clear hr0 hc0
 have HR1 := Aside0.mk hr1
 have HC1 := Aside0.mk hc1
 clear hr1 hc1
 have H : (if (l0.length : Int) > 1048576 then (some true) else (some (decide ((l1.length : Int) > (wrap64 (1048576 - (l0.length : Int))))))) = some r := h
 clear h
 by_cases c3 : (l0.length : Int) > 1048576
 ·
  rw [if_pos c3] at H
  have c3b0 : decide (1048576 < (l0.length : Int)) = true := decide_eq_true c3
  have c3b1 : decide (1048576 < l0.length) = true := decide_eq_true (by omega)
  clear c3
  obtain rfl := Option.some.inj H
  go_enter Try.func16, Try.ntmps16
  go_wp2
  go_ret
  exact ⟨by first | rfl | (simp; done) | (simp [*]; done), by repeat (first | exact Drawn0.refl _ | apply Drawn0.step)⟩
 ·
  rw [if_neg c3] at H
  have c3b0 : decide (1048576 < (l0.length : Int)) = false := decide_eq_false c3
  have c3b1 : decide (1048576 < l0.length) = false := decide_eq_false (by omega)
  clear c3
  obtain rfl := Option.some.inj H
  go_enter Try.func16, Try.ntmps16
  go_wp2
  go_ret
  exact ⟨by first | rfl | (simp; done) | (simp [*]; done), by repeat (first | exact Drawn0.refl _ | apply Drawn0.step)⟩
/-! ### spec_l1In: function 68 -/
set_option maxHeartbeats 8000000 in
set_option maxRecDepth 100000 in
theorem spec_l1In.calls (a0 : Int) (a1 : Int) (a2 : Int) (r : Bool) (w : World) (h : spec_l1In.f a0 a1 a2 = some r) :
  Calls Try.prog 68 #[.int .i64 a0, .int .i64 a1, .int .i64 a2] w fun e w' => e = .returned (.bool r) ∧ Drawn0 w w' := by
 have H : (if a0 ≥ a1 then (some (decide (a0 ≤ a2))) else (some false)) = some r := h
 clear h
 by_cases c4 : a0 ≥ a1
 ·
  rw [if_pos c4] at H
  have c4b0 : decide (a1 ≤ a0) = true := decide_eq_true c4
  clear c4
  obtain rfl := Option.some.inj H
  go_enter Try.func68, Try.ntmps68
  go_wp2
  go_ret
  exact ⟨by first | rfl | (simp; done) | (simp [*]; done), by repeat (first | exact Drawn0.refl _ | apply Drawn0.step)⟩
 ·
  rw [if_neg c4] at H
  have c4b0 : decide (a1 ≤ a0) = false := decide_eq_false c4
  clear c4
  obtain rfl := Option.some.inj H
  go_enter Try.func68, Try.ntmps68
  go_wp2
  go_ret
  exact ⟨by first | rfl | (simp; done) | (simp [*]; done), by repeat (first | exact Drawn0.refl _ | apply Drawn0.step)⟩
/-! ### spec_poTerm: function 66 -/
set_option maxHeartbeats 8000000 in
set_option maxRecDepth 100000 in
theorem spec_poTerm.calls (a0_0 : Int) (a0_1 : Int) (a0_2 : Int) (a0_3 : Int) (r : Bool) (w : World) (h : spec_poTerm.f a0_0 a0_1 a0_2 a0_3 = some r) :
  Calls Try.prog 66 #[.agg #[.int .i64 a0_0, .int .i64 a0_1, .int .i64 a0_2, .int .i64 a0_3]] w fun e w' => e = .returned (.bool r) ∧ Below w.heap.size w w' := by
 have hu51 := Try.underlying51
 have HB := Aside0.mk (Below.refl w.heap.size w)
 have H : ((spec_l1In.f a0_0 (-1000) 1000).bind fun t102 => (if t102 = true then ((spec_l1In.f a0_1 0 4).bind fun t103 => (if t103 = true then ((spec_l1In.f a0_2 0 4).bind fun t104 => (if t104 = true then ((spec_l1In.f a0_3 0 4).bind fun t105 => (if t105 = true then (some (decide ((wrap64 ((wrap64 (a0_1 + a0_2)) + a0_3)) ≤ 4))) else (some false))) else (some false))) else (some false))) else (some false))) = some r := h
 clear h
 replace H := Option.bind_eq_some_iff.mp H
 obtain ⟨t102, A20, H⟩ := H
 replace H : (if t102 = true then ((spec_l1In.f a0_1 0 4).bind fun t103 => (if t103 = true then ((spec_l1In.f a0_2 0 4).bind fun t104 => (if t104 = true then ((spec_l1In.f a0_3 0 4).bind fun t105 => (if t105 = true then (some (decide ((wrap64 ((wrap64 (a0_1 + a0_2)) + a0_3)) ≤ 4))) else (some false))) else (some false))) else (some false))) else (some false)) = some r := H
 have A2 := Aside0.mk A20
 clear A20
 by_cases c3 : t102 = true
 ·
  subst c3
  have H1 : ((spec_l1In.f a0_1 0 4).bind fun t103 => (if t103 = true then ((spec_l1In.f a0_2 0 4).bind fun t104 => (if t104 = true then ((spec_l1In.f a0_3 0 4).bind fun t105 => (if t105 = true then (some (decide ((wrap64 ((wrap64 (a0_1 + a0_2)) + a0_3)) ≤ 4))) else (some false))) else (some false))) else (some false))) = some r := by rw [if_pos rfl] at H; exact H
  clear H
  have H := H1
  clear H1
  replace H := Option.bind_eq_some_iff.mp H
  obtain ⟨t103, A40, H⟩ := H
  replace H : (if t103 = true then ((spec_l1In.f a0_2 0 4).bind fun t104 => (if t104 = true then ((spec_l1In.f a0_3 0 4).bind fun t105 => (if t105 = true then (some (decide ((wrap64 ((wrap64 (a0_1 + a0_2)) + a0_3)) ≤ 4))) else (some false))) else (some false))) else (some false)) = some r := H
  have A4 := Aside0.mk A40
  clear A40
  by_cases c5 : t103 = true
  ·
   subst c5
   have H1 : ((spec_l1In.f a0_2 0 4).bind fun t104 => (if t104 = true then ((spec_l1In.f a0_3 0 4).bind fun t105 => (if t105 = true then (some (decide ((wrap64 ((wrap64 (a0_1 + a0_2)) + a0_3)) ≤ 4))) else (some false))) else (some false))) = some r := by rw [if_pos rfl] at H; exact H
   clear H
   have H := H1
   clear H1
   replace H := Option.bind_eq_some_iff.mp H
   obtain ⟨t104, A60, H⟩ := H
   replace H : (if t104 = true then ((spec_l1In.f a0_3 0 4).bind fun t105 => (if t105 = true then (some (decide ((wrap64 ((wrap64 (a0_1 + a0_2)) + a0_3)) ≤ 4))) else (some false))) else (some false)) = some r := H
   have A6 := Aside0.mk A60
   clear A60
   by_cases c7 : t104 = true
   ·
    subst c7
    have H1 : ((spec_l1In.f a0_3 0 4).bind fun t105 => (if t105 = true then (some (decide ((wrap64 ((wrap64 (a0_1 + a0_2)) + a0_3)) ≤ 4))) else (some false))) = some r := by rw [if_pos rfl] at H; exact H
    clear H
    have H := H1
    clear H1
    replace H := Option.bind_eq_some_iff.mp H
    obtain ⟨t105, A80, H⟩ := H
    replace H : (if t105 = true then (some (decide ((wrap64 ((wrap64 (a0_1 + a0_2)) + a0_3)) ≤ 4))) else (some false)) = some r := H
    have A8 := Aside0.mk A80
    clear A80
    by_cases c9 : t105 = true
    ·
     subst c9
     have H1 : (some (decide ((wrap64 ((wrap64 (a0_1 + a0_2)) + a0_3)) ≤ 4))) = some r := by rw [if_pos rfl] at H; exact H
     clear H
     have H := H1
     clear H1
     obtain rfl := Option.some.inj H
     go_enter Try.func66, Try.ntmps66
     go_wp2_with (first | ((with_reducible refine gate_dst (N := 1) rfl ?_); refine zbe (N := 1) (cs := #[.int .i64 a0_0, .int .i64 a0_1, .int .i64 a0_2, .int .i64 a0_3]) (t := 51) ?_; intro gb101 hg w10 hbox hb; have BK101 := Aside0.mk (hbox); have GW101 := Aside0.mk (zge (zb0 HB) hg); have GE101 := GW101; replace HB := Aside0.mk (below_step (zb0 HB) hb); clear hb hbox hg; have hcz11_0 : w10.cell? ⟨gb101, 0, none⟩ = some (.int .i64 a0_0) := zc BK101 0; have hcz11_1 : w10.cell? ⟨gb101, 1, none⟩ = some (.int .i64 a0_1) := zc BK101 1; have hcz11_2 : w10.cell? ⟨gb101, 2, none⟩ = some (.int .i64 a0_2) := zc BK101 2; have hcz11_3 : w10.cell? ⟨gb101, 3, none⟩ = some (.int .i64 a0_3) := zc BK101 3; have hfz11_0 := blk_frozen BK101.out 0; have hfz11_1 := blk_frozen BK101.out 1; have hfz11_2 := blk_frozen BK101.out 2; have hfz11_3 := blk_frozen BK101.out 3) | ((with_reducible refine gate_callee (f := 68) rfl ?_); refine goesL_ (some 5) rfl rfl Try.func68 (by kernel_rfl) rfl #[.int .i64 a0_0, .int .i64 (-1000), .int .i64 1000] rfl zq6 ?_; (with_reducible refine (spec_l1In.calls a0_0 (-1000) 1000 true _ A2.out).mono ?_); rintro e w' ⟨rfl, ⟨nd, rfl⟩⟩; refine ⟨_, rfl, ?_⟩) | (go_at_call 68; (with_reducible refine (spec_l1In.calls a0_1 0 4 true _ A4.out).mono ?_); rintro e w' ⟨rfl, ⟨nd, rfl⟩⟩) | (go_at_call 68; (with_reducible refine (spec_l1In.calls a0_2 0 4 true _ A6.out).mono ?_); rintro e w' ⟨rfl, ⟨nd, rfl⟩⟩) | (go_at_call 68; (with_reducible refine (spec_l1In.calls a0_3 0 4 true _ A8.out).mono ?_); rintro e w' ⟨rfl, ⟨nd, rfl⟩⟩))
     go_ret
     exact ⟨by first | rfl | (simp [errW_none, errW_some] <;> rfl) | (simp [*, errW_none, errW_some] <;> rfl), (zb1 HB)⟩
    ·
     replace c9 := Bool.eq_false_iff.mpr c9
     subst c9
     have H1 : (some false) = some r := by rw [if_neg (show ¬ (false = true) by decide)] at H; exact H
     clear H
     have H := H1
     clear H1
     obtain rfl := Option.some.inj H
     go_enter Try.func66, Try.ntmps66
     go_wp2_with (first | ((with_reducible refine gate_dst (N := 1) rfl ?_); refine zbe (N := 1) (cs := #[.int .i64 a0_0, .int .i64 a0_1, .int .i64 a0_2, .int .i64 a0_3]) (t := 51) ?_; intro gb101 hg w12 hbox hb; have BK101 := Aside0.mk (hbox); have GW101 := Aside0.mk (zge (zb0 HB) hg); have GE101 := GW101; replace HB := Aside0.mk (below_step (zb0 HB) hb); clear hb hbox hg; have hcz13_0 : w12.cell? ⟨gb101, 0, none⟩ = some (.int .i64 a0_0) := zc BK101 0; have hcz13_1 : w12.cell? ⟨gb101, 1, none⟩ = some (.int .i64 a0_1) := zc BK101 1; have hcz13_2 : w12.cell? ⟨gb101, 2, none⟩ = some (.int .i64 a0_2) := zc BK101 2; have hcz13_3 : w12.cell? ⟨gb101, 3, none⟩ = some (.int .i64 a0_3) := zc BK101 3; have hfz13_0 := blk_frozen BK101.out 0; have hfz13_1 := blk_frozen BK101.out 1; have hfz13_2 := blk_frozen BK101.out 2; have hfz13_3 := blk_frozen BK101.out 3) | ((with_reducible refine gate_callee (f := 68) rfl ?_); refine goesL_ (some 5) rfl rfl Try.func68 (by kernel_rfl) rfl #[.int .i64 a0_0, .int .i64 (-1000), .int .i64 1000] rfl zq6 ?_; (with_reducible refine (spec_l1In.calls a0_0 (-1000) 1000 true _ A2.out).mono ?_); rintro e w' ⟨rfl, ⟨nd, rfl⟩⟩; refine ⟨_, rfl, ?_⟩) | (go_at_call 68; (with_reducible refine (spec_l1In.calls a0_1 0 4 true _ A4.out).mono ?_); rintro e w' ⟨rfl, ⟨nd, rfl⟩⟩) | (go_at_call 68; (with_reducible refine (spec_l1In.calls a0_2 0 4 true _ A6.out).mono ?_); rintro e w' ⟨rfl, ⟨nd, rfl⟩⟩) | (go_at_call 68; (with_reducible refine (spec_l1In.calls a0_3 0 4 false _ A8.out).mono ?_); rintro e w' ⟨rfl, ⟨nd, rfl⟩⟩))
     go_ret
     exact ⟨by first | rfl | (simp [errW_none, errW_some] <;> rfl) | (simp [*, errW_none, errW_some] <;> rfl), (zb1 HB)⟩
   ·
    replace c7 := Bool.eq_false_iff.mpr c7
    subst c7
    have H1 : (some false) = some r := by rw [if_neg (show ¬ (false = true) by decide)] at H; exact H
    clear H
    have H := H1
    clear H1
    obtain rfl := Option.some.inj H
    go_enter Try.func66, Try.ntmps66
    go_wp2_with (first | ((with_reducible refine gate_dst (N := 1) rfl ?_); refine zbe (N := 1) (cs := #[.int .i64 a0_0, .int .i64 a0_1, .int .i64 a0_2, .int .i64 a0_3]) (t := 51) ?_; intro gb101 hg w14 hbox hb; have BK101 := Aside0.mk (hbox); have GW101 := Aside0.mk (zge (zb0 HB) hg); have GE101 := GW101; replace HB := Aside0.mk (below_step (zb0 HB) hb); clear hb hbox hg; have hcz15_0 : w14.cell? ⟨gb101, 0, none⟩ = some (.int .i64 a0_0) := zc BK101 0; have hcz15_1 : w14.cell? ⟨gb101, 1, none⟩ = some (.int .i64 a0_1) := zc BK101 1; have hcz15_2 : w14.cell? ⟨gb101, 2, none⟩ = some (.int .i64 a0_2) := zc BK101 2; have hcz15_3 : w14.cell? ⟨gb101, 3, none⟩ = some (.int .i64 a0_3) := zc BK101 3; have hfz15_0 := blk_frozen BK101.out 0; have hfz15_1 := blk_frozen BK101.out 1; have hfz15_2 := blk_frozen BK101.out 2; have hfz15_3 := blk_frozen BK101.out 3) | ((with_reducible refine gate_callee (f := 68) rfl ?_); refine goesL_ (some 5) rfl rfl Try.func68 (by kernel_rfl) rfl #[.int .i64 a0_0, .int .i64 (-1000), .int .i64 1000] rfl zq6 ?_; (with_reducible refine (spec_l1In.calls a0_0 (-1000) 1000 true _ A2.out).mono ?_); rintro e w' ⟨rfl, ⟨nd, rfl⟩⟩; refine ⟨_, rfl, ?_⟩) | (go_at_call 68; (with_reducible refine (spec_l1In.calls a0_1 0 4 true _ A4.out).mono ?_); rintro e w' ⟨rfl, ⟨nd, rfl⟩⟩) | (go_at_call 68; (with_reducible refine (spec_l1In.calls a0_2 0 4 false _ A6.out).mono ?_); rintro e w' ⟨rfl, ⟨nd, rfl⟩⟩))
    go_ret
    exact ⟨by first | rfl | (simp [errW_none, errW_some] <;> rfl) | (simp [*, errW_none, errW_some] <;> rfl), (zb1 HB)⟩
  ·
   replace c5 := Bool.eq_false_iff.mpr c5
   subst c5
   have H1 : (some false) = some r := by rw [if_neg (show ¬ (false = true) by decide)] at H; exact H
   clear H
   have H := H1
   clear H1
   obtain rfl := Option.some.inj H
   go_enter Try.func66, Try.ntmps66
   go_wp2_with (first | ((with_reducible refine gate_dst (N := 1) rfl ?_); refine zbe (N := 1) (cs := #[.int .i64 a0_0, .int .i64 a0_1, .int .i64 a0_2, .int .i64 a0_3]) (t := 51) ?_; intro gb101 hg w16 hbox hb; have BK101 := Aside0.mk (hbox); have GW101 := Aside0.mk (zge (zb0 HB) hg); have GE101 := GW101; replace HB := Aside0.mk (below_step (zb0 HB) hb); clear hb hbox hg; have hcz17_0 : w16.cell? ⟨gb101, 0, none⟩ = some (.int .i64 a0_0) := zc BK101 0; have hcz17_1 : w16.cell? ⟨gb101, 1, none⟩ = some (.int .i64 a0_1) := zc BK101 1; have hcz17_2 : w16.cell? ⟨gb101, 2, none⟩ = some (.int .i64 a0_2) := zc BK101 2; have hcz17_3 : w16.cell? ⟨gb101, 3, none⟩ = some (.int .i64 a0_3) := zc BK101 3; have hfz17_0 := blk_frozen BK101.out 0; have hfz17_1 := blk_frozen BK101.out 1; have hfz17_2 := blk_frozen BK101.out 2; have hfz17_3 := blk_frozen BK101.out 3) | ((with_reducible refine gate_callee (f := 68) rfl ?_); refine goesL_ (some 5) rfl rfl Try.func68 (by kernel_rfl) rfl #[.int .i64 a0_0, .int .i64 (-1000), .int .i64 1000] rfl zq6 ?_; (with_reducible refine (spec_l1In.calls a0_0 (-1000) 1000 true _ A2.out).mono ?_); rintro e w' ⟨rfl, ⟨nd, rfl⟩⟩; refine ⟨_, rfl, ?_⟩) | (go_at_call 68; (with_reducible refine (spec_l1In.calls a0_1 0 4 false _ A4.out).mono ?_); rintro e w' ⟨rfl, ⟨nd, rfl⟩⟩))
   go_ret
   exact ⟨by first | rfl | (simp [errW_none, errW_some] <;> rfl) | (simp [*, errW_none, errW_some] <;> rfl), (zb1 HB)⟩
 ·
  replace c3 := Bool.eq_false_iff.mpr c3
  subst c3
  have H1 : (some false) = some r := by rw [if_neg (show ¬ (false = true) by decide)] at H; exact H
  clear H
  have H := H1
  clear H1
  obtain rfl := Option.some.inj H
  go_enter Try.func66, Try.ntmps66
  go_wp2_with (first | ((with_reducible refine gate_dst (N := 1) rfl ?_); refine zbe (N := 1) (cs := #[.int .i64 a0_0, .int .i64 a0_1, .int .i64 a0_2, .int .i64 a0_3]) (t := 51) ?_; intro gb101 hg w18 hbox hb; have BK101 := Aside0.mk (hbox); have GW101 := Aside0.mk (zge (zb0 HB) hg); have GE101 := GW101; replace HB := Aside0.mk (below_step (zb0 HB) hb); clear hb hbox hg; have hcz19_0 : w18.cell? ⟨gb101, 0, none⟩ = some (.int .i64 a0_0) := zc BK101 0; have hcz19_1 : w18.cell? ⟨gb101, 1, none⟩ = some (.int .i64 a0_1) := zc BK101 1; have hcz19_2 : w18.cell? ⟨gb101, 2, none⟩ = some (.int .i64 a0_2) := zc BK101 2; have hcz19_3 : w18.cell? ⟨gb101, 3, none⟩ = some (.int .i64 a0_3) := zc BK101 3; have hfz19_0 := blk_frozen BK101.out 0; have hfz19_1 := blk_frozen BK101.out 1; have hfz19_2 := blk_frozen BK101.out 2; have hfz19_3 := blk_frozen BK101.out 3) | ((with_reducible refine gate_callee (f := 68) rfl ?_); refine goesL_ (some 5) rfl rfl Try.func68 (by kernel_rfl) rfl #[.int .i64 a0_0, .int .i64 (-1000), .int .i64 1000] rfl zq6 ?_; (with_reducible refine (spec_l1In.calls a0_0 (-1000) 1000 false _ A2.out).mono ?_); rintro e w' ⟨rfl, ⟨nd, rfl⟩⟩; refine ⟨_, rfl, ?_⟩))
  go_ret
  exact ⟨by first | rfl | (simp [errW_none, errW_some] <;> rfl) | (simp [*, errW_none, errW_some] <;> rfl), (zb1 HB)⟩
/-! ### spec_l1Sign: function 85 -/
set_option maxHeartbeats 8000000 in
set_option maxRecDepth 100000 in
theorem spec_l1Sign.calls (a0 : Int) (r : Int) (w : World) (h : spec_l1Sign.f a0 = some r) :
  Calls Try.prog 85 #[.int .i64 a0] w fun e w' => e = .returned (.int .i64 r) ∧ Drawn0 w w' := by
 have H : (if a0 > 0 then (some 1) else (if a0 < 0 then (some (-1)) else (some 0))) = some r := h
 clear h
 by_cases c2 : a0 > 0
 ·
  rw [if_pos c2] at H
  have c2b0 : decide (0 < a0) = true := decide_eq_true c2
  clear c2
  obtain rfl := Option.some.inj H
  go_enter Try.func85, Try.ntmps85
  go_wp2
  go_ret
  exact ⟨by first | rfl | (simp; done) | (simp [*]; done), by repeat (first | exact Drawn0.refl _ | apply Drawn0.step)⟩
 ·
  rw [if_neg c2] at H
  have c2b0 : decide (0 < a0) = false := decide_eq_false c2
  clear c2
  by_cases c3 : a0 < 0
  ·
   rw [if_pos c3] at H
   have c3b0 : decide (a0 < 0) = true := decide_eq_true c3
   clear c3
   obtain rfl := Option.some.inj H
   go_enter Try.func85, Try.ntmps85
   go_wp2
   go_ret
   exact ⟨by first | rfl | (simp; done) | (simp [*]; done), by repeat (first | exact Drawn0.refl _ | apply Drawn0.step)⟩
  ·
   rw [if_neg c3] at H
   have c3b0 : decide (a0 < 0) = false := decide_eq_false c3
   clear c3
   obtain rfl := Option.some.inj H
   go_enter Try.func85, Try.ntmps85
   go_wp2
   go_ret
   exact ⟨by first | rfl | (simp; done) | (simp [*]; done), by repeat (first | exact Drawn0.refl _ | apply Drawn0.step)⟩
/-! ### spec_poOrder: function 69 -/
set_option maxHeartbeats 8000000 in
set_option maxRecDepth 100000 in
theorem spec_poOrder.calls (a0_0 : Int) (a0_1 : Int) (a0_2 : Int) (a0_3 : Int) (a1_0 : Int) (a1_1 : Int) (a1_2 : Int) (a1_3 : Int) (r : Int) (w : World) (h : spec_poOrder.f a0_0 a0_1 a0_2 a0_3 a1_0 a1_1 a1_2 a1_3 = some r) :
  Calls Try.prog 69 #[.agg #[.int .i64 a0_0, .int .i64 a0_1, .int .i64 a0_2, .int .i64 a0_3], .agg #[.int .i64 a1_0, .int .i64 a1_1, .int .i64 a1_2, .int .i64 a1_3]] w fun e w' => e = .returned (.int .i64 r) ∧ Below w.heap.size w w' := by
 have hu51 := Try.underlying51
 have HB := Aside0.mk (Below.refl w.heap.size w)
 have H : (if a0_1 = a1_1 then (if a0_2 = a1_2 then ((spec_l1Sign.f (wrap64 (a0_3 - a1_3))).bind fun t108 => (some t108)) else ((spec_l1Sign.f (wrap64 (a0_2 - a1_2))).bind fun t109 => (some t109))) else ((spec_l1Sign.f (wrap64 (a0_1 - a1_1))).bind fun t110 => (some t110))) = some r := h
 clear h
 by_cases c3 : a0_1 = a1_1
 ·
  rw [if_pos c3] at H
  have c3b0 : (a0_1 == a1_1) = true := beq_iff_eq.mpr c3
  have c3b1 : (a0_1 != a1_1) = false := bne_eq_false_iff_eq.mpr c3
  clear c3
  by_cases c4 : a0_2 = a1_2
  ·
   rw [if_pos c4] at H
   have c4b0 : (a0_2 == a1_2) = true := beq_iff_eq.mpr c4
   have c4b1 : (a0_2 != a1_2) = false := bne_eq_false_iff_eq.mpr c4
   clear c4
   replace H := Option.bind_eq_some_iff.mp H
   obtain ⟨t108, A50, H⟩ := H
   replace H : (some t108) = some r := H
   have A5 := Aside0.mk A50
   clear A50
   obtain rfl := Option.some.inj H
   go_enter Try.func69, Try.ntmps69
   go_wp2_with (first | ((with_reducible refine gate_dst (N := 2) rfl ?_); refine zbe (N := 2) (cs := #[.int .i64 a0_0, .int .i64 a0_1, .int .i64 a0_2, .int .i64 a0_3]) (t := 51) ?_; intro gb106 hg w6 hbox hb; have BK106 := Aside0.mk (hbox); have GW106 := Aside0.mk (zge (zb0 HB) hg); have GE106 := GW106; replace HB := Aside0.mk (below_step (zb0 HB) hb); clear hb hbox hg) | ((with_reducible refine gate_dst (N := 3) rfl ?_); refine zbe (N := 3) (cs := #[.int .i64 a1_0, .int .i64 a1_1, .int .i64 a1_2, .int .i64 a1_3]) (t := 51) ?_; intro gb107 hg w7 hbox hb; have BK107 := Aside0.mk (hbox); have GW107 := Aside0.mk (zge (zb1 HB) hg); have GE107 := GW107; have NB106_107 := Aside0.mk (zlt BK106 hg); have NB107_106 := Aside0.mk (zgt BK106 hg); replace BK106 := Aside0.mk (zbb BK106 hb); replace HB := Aside0.mk (below_step (zb1 HB) hb); clear hb hbox hg; have hnb8 := NB106_107.out; have hnc8 := NB107_106.out; have hcz9_0 : w7.cell? ⟨gb106, 0, none⟩ = some (.int .i64 a0_0) := zc BK106 0; have hcz9_1 : w7.cell? ⟨gb106, 1, none⟩ = some (.int .i64 a0_1) := zc BK106 1; have hcz9_2 : w7.cell? ⟨gb106, 2, none⟩ = some (.int .i64 a0_2) := zc BK106 2; have hcz9_3 : w7.cell? ⟨gb106, 3, none⟩ = some (.int .i64 a0_3) := zc BK106 3; have hfz9_0 := blk_frozen BK106.out 0; have hfz9_1 := blk_frozen BK106.out 1; have hfz9_2 := blk_frozen BK106.out 2; have hfz9_3 := blk_frozen BK106.out 3; have hcz10_0 : w7.cell? ⟨gb107, 0, none⟩ = some (.int .i64 a1_0) := zc BK107 0; have hcz10_1 : w7.cell? ⟨gb107, 1, none⟩ = some (.int .i64 a1_1) := zc BK107 1; have hcz10_2 : w7.cell? ⟨gb107, 2, none⟩ = some (.int .i64 a1_2) := zc BK107 2; have hcz10_3 : w7.cell? ⟨gb107, 3, none⟩ = some (.int .i64 a1_3) := zc BK107 3; have hfz10_0 := blk_frozen BK107.out 0; have hfz10_1 := blk_frozen BK107.out 1; have hfz10_2 := blk_frozen BK107.out 2; have hfz10_3 := blk_frozen BK107.out 3) | ((with_reducible refine gate_callee (f := 85) rfl ?_); refine goesL_ (some 34) rfl rfl Try.func85 (by kernel_rfl) rfl #[.int .i64 (wrap64 (a0_3 - a1_3))] rfl zq6 ?_; (with_reducible refine (spec_l1Sign.calls (wrap64 (a0_3 - a1_3)) t108 _ A5.out).mono ?_); rintro e w' ⟨rfl, ⟨nd, rfl⟩⟩; refine ⟨_, rfl, ?_⟩))
   go_ret
   exact ⟨by first | rfl | (simp [errW_none, errW_some] <;> rfl) | (simp [*, errW_none, errW_some] <;> rfl), (zb1 HB)⟩
  ·
   rw [if_neg c4] at H
   have c4b0 : (a0_2 == a1_2) = false := beq_eq_false_iff_ne.mpr c4
   have c4b1 : (a0_2 != a1_2) = true := bne_iff_ne.mpr c4
   replace H := Option.bind_eq_some_iff.mp H
   obtain ⟨t109, A110, H⟩ := H
   replace H : (some t109) = some r := H
   have A11 := Aside0.mk A110
   clear A110
   obtain rfl := Option.some.inj H
   go_enter Try.func69, Try.ntmps69
   go_wp2_with (first | ((with_reducible refine gate_dst (N := 2) rfl ?_); refine zbe (N := 2) (cs := #[.int .i64 a0_0, .int .i64 a0_1, .int .i64 a0_2, .int .i64 a0_3]) (t := 51) ?_; intro gb106 hg w12 hbox hb; have BK106 := Aside0.mk (hbox); have GW106 := Aside0.mk (zge (zb0 HB) hg); have GE106 := GW106; replace HB := Aside0.mk (below_step (zb0 HB) hb); clear hb hbox hg) | ((with_reducible refine gate_dst (N := 3) rfl ?_); refine zbe (N := 3) (cs := #[.int .i64 a1_0, .int .i64 a1_1, .int .i64 a1_2, .int .i64 a1_3]) (t := 51) ?_; intro gb107 hg w13 hbox hb; have BK107 := Aside0.mk (hbox); have GW107 := Aside0.mk (zge (zb1 HB) hg); have GE107 := GW107; have NB106_107 := Aside0.mk (zlt BK106 hg); have NB107_106 := Aside0.mk (zgt BK106 hg); replace BK106 := Aside0.mk (zbb BK106 hb); replace HB := Aside0.mk (below_step (zb1 HB) hb); clear hb hbox hg; have hnb14 := NB106_107.out; have hnc14 := NB107_106.out; have hcz15_0 : w13.cell? ⟨gb106, 0, none⟩ = some (.int .i64 a0_0) := zc BK106 0; have hcz15_1 : w13.cell? ⟨gb106, 1, none⟩ = some (.int .i64 a0_1) := zc BK106 1; have hcz15_2 : w13.cell? ⟨gb106, 2, none⟩ = some (.int .i64 a0_2) := zc BK106 2; have hcz15_3 : w13.cell? ⟨gb106, 3, none⟩ = some (.int .i64 a0_3) := zc BK106 3; have hfz15_0 := blk_frozen BK106.out 0; have hfz15_1 := blk_frozen BK106.out 1; have hfz15_2 := blk_frozen BK106.out 2; have hfz15_3 := blk_frozen BK106.out 3; have hcz16_0 : w13.cell? ⟨gb107, 0, none⟩ = some (.int .i64 a1_0) := zc BK107 0; have hcz16_1 : w13.cell? ⟨gb107, 1, none⟩ = some (.int .i64 a1_1) := zc BK107 1; have hcz16_2 : w13.cell? ⟨gb107, 2, none⟩ = some (.int .i64 a1_2) := zc BK107 2; have hcz16_3 : w13.cell? ⟨gb107, 3, none⟩ = some (.int .i64 a1_3) := zc BK107 3; have hfz16_0 := blk_frozen BK107.out 0; have hfz16_1 := blk_frozen BK107.out 1; have hfz16_2 := blk_frozen BK107.out 2; have hfz16_3 := blk_frozen BK107.out 3) | ((with_reducible refine gate_callee (f := 85) rfl ?_); refine goesL_ (some 28) rfl rfl Try.func85 (by kernel_rfl) rfl #[.int .i64 (wrap64 (a0_2 - a1_2))] rfl zq6 ?_; (with_reducible refine (spec_l1Sign.calls (wrap64 (a0_2 - a1_2)) t109 _ A11.out).mono ?_); rintro e w' ⟨rfl, ⟨nd, rfl⟩⟩; refine ⟨_, rfl, ?_⟩))
   go_ret
   exact ⟨by first | rfl | (simp [errW_none, errW_some] <;> rfl) | (simp [*, errW_none, errW_some] <;> rfl), (zb1 HB)⟩
 ·
  rw [if_neg c3] at H
  have c3b0 : (a0_1 == a1_1) = false := beq_eq_false_iff_ne.mpr c3
  have c3b1 : (a0_1 != a1_1) = true := bne_iff_ne.mpr c3
  replace H := Option.bind_eq_some_iff.mp H
  obtain ⟨t110, A170, H⟩ := H
  replace H : (some t110) = some r := H
  have A17 := Aside0.mk A170
  clear A170
  obtain rfl := Option.some.inj H
  go_enter Try.func69, Try.ntmps69
  go_wp2_with (first | ((with_reducible refine gate_dst (N := 2) rfl ?_); refine zbe (N := 2) (cs := #[.int .i64 a0_0, .int .i64 a0_1, .int .i64 a0_2, .int .i64 a0_3]) (t := 51) ?_; intro gb106 hg w18 hbox hb; have BK106 := Aside0.mk (hbox); have GW106 := Aside0.mk (zge (zb0 HB) hg); have GE106 := GW106; replace HB := Aside0.mk (below_step (zb0 HB) hb); clear hb hbox hg) | ((with_reducible refine gate_dst (N := 3) rfl ?_); refine zbe (N := 3) (cs := #[.int .i64 a1_0, .int .i64 a1_1, .int .i64 a1_2, .int .i64 a1_3]) (t := 51) ?_; intro gb107 hg w19 hbox hb; have BK107 := Aside0.mk (hbox); have GW107 := Aside0.mk (zge (zb1 HB) hg); have GE107 := GW107; have NB106_107 := Aside0.mk (zlt BK106 hg); have NB107_106 := Aside0.mk (zgt BK106 hg); replace BK106 := Aside0.mk (zbb BK106 hb); replace HB := Aside0.mk (below_step (zb1 HB) hb); clear hb hbox hg; have hnb20 := NB106_107.out; have hnc20 := NB107_106.out; have hcz21_0 : w19.cell? ⟨gb106, 0, none⟩ = some (.int .i64 a0_0) := zc BK106 0; have hcz21_1 : w19.cell? ⟨gb106, 1, none⟩ = some (.int .i64 a0_1) := zc BK106 1; have hcz21_2 : w19.cell? ⟨gb106, 2, none⟩ = some (.int .i64 a0_2) := zc BK106 2; have hcz21_3 : w19.cell? ⟨gb106, 3, none⟩ = some (.int .i64 a0_3) := zc BK106 3; have hfz21_0 := blk_frozen BK106.out 0; have hfz21_1 := blk_frozen BK106.out 1; have hfz21_2 := blk_frozen BK106.out 2; have hfz21_3 := blk_frozen BK106.out 3; have hcz22_0 : w19.cell? ⟨gb107, 0, none⟩ = some (.int .i64 a1_0) := zc BK107 0; have hcz22_1 : w19.cell? ⟨gb107, 1, none⟩ = some (.int .i64 a1_1) := zc BK107 1; have hcz22_2 : w19.cell? ⟨gb107, 2, none⟩ = some (.int .i64 a1_2) := zc BK107 2; have hcz22_3 : w19.cell? ⟨gb107, 3, none⟩ = some (.int .i64 a1_3) := zc BK107 3; have hfz22_0 := blk_frozen BK107.out 0; have hfz22_1 := blk_frozen BK107.out 1; have hfz22_2 := blk_frozen BK107.out 2; have hfz22_3 := blk_frozen BK107.out 3) | ((with_reducible refine gate_callee (f := 85) rfl ?_); refine goesL_ (some 16) rfl rfl Try.func85 (by kernel_rfl) rfl #[.int .i64 (wrap64 (a0_1 - a1_1))] rfl zq6 ?_; (with_reducible refine (spec_l1Sign.calls (wrap64 (a0_1 - a1_1)) t110 _ A17.out).mono ?_); rintro e w' ⟨rfl, ⟨nd, rfl⟩⟩; refine ⟨_, rfl, ?_⟩))
  go_ret
  exact ⟨by first | rfl | (simp [errW_none, errW_some] <;> rfl) | (simp [*, errW_none, errW_some] <;> rfl), (zb1 HB)⟩
/-! ### spec_l1Cur_next: function 81 -/
theorem z81_0 {P Q : Prop} (h : Aside0 (Q)) (f : Q → P := by intro h_; repeat (first | (with_reducible first | exact h_ | apply IsS67.alloc | apply IsS67.drewN | apply IsS67.drew | apply IsS67.set_1 | apply IsS67.set_2) | exact h_)) : P := f h.out
theorem z81_1 {w W0 W1 : World} {B : Nat} (h : Aside0 (Below B w W0)) (f : Below B w W0 → Below B w W1 := by intro h_; repeat (first | (with_reducible first | exact h_ | apply below_alloc | apply pw_below_drewN | apply below_drew1 | refine below_set ?_ (IsS67.ge (Aside0.out (by assumption)))) | exact h_)) : Below B w W1 := f h.out
theorem z81_2 {w W0 W1 : World} {g : Nat} {row : Option Nat} (h : Aside0 (KeepBut w W0 g row)) (f : KeepBut w W0 g row → KeepBut w W1 g row := by intro h_; repeat (first | (with_reducible first | exact h_ | apply KeepBut.set_ | apply keep_drewN | apply keep_drew | apply keep_alloc) | exact h_)) : KeepBut w W1 g row := f h.out
set_option maxHeartbeats 8000000 in
set_option maxRecDepth 100000 in
theorem spec_l1Cur_next.calls (g : Nat) (s0_0 : List Int) (s0_1 : Int) (s0_2 : Int) (r1 : Int) (r2 : Int) (r3 : Int) (w0 w : World) (hI : IsS67 w0 w g s0_0 s0_1 s0_2) (hB : Below w0.heap.size w0 w) (h : spec_l1Cur_next.f s0_0 s0_1 s0_2 = some (r1, r2, r3)) :
  Calls Try.prog 81 #[.pointer (some ⟨g, 0, none⟩)] w fun e w' => e = .returned (.int .i64 r1) ∧ IsS67 w0 w' g s0_0 r2 r3 ∧ Below w0.heap.size w0 w' ∧ KeepBut w w' g none := by
 have HI0 := Aside0.mk hI
 have HK := Aside0.mk (KeepBut.refl w g none)
 have HL := Aside0.mk hB.size
 clear hI
 have HW0 := Aside0.mk hB.size
 have HB := Aside0.mk hB
 clear hB
 have H : (if s0_1 < (s0_0.length : Int) then (if 0 ≤ s0_1 then (if (wrap64 (s0_1 + 1)) ≤ (s0_0.length : Int) then (some (wrap64 (rd s0_0 s0_1), wrap64 (s0_1 + 1), IntKind.u64.wrap ((IntKind.u64.wrap ((IntKind.u64.wrap (s0_2 * 6364136223846793005)) + (IntKind.u64.wrap (wrap64 (rd s0_0 s0_1))))) + 1442695040888963407))) else (some (wrap64 (Go.bits .and .u64 ((IntKind.u64.wrap ((IntKind.u64.wrap ((IntKind.u64.wrap (s0_2 * 6364136223846793005)) + (IntKind.u64.wrap (wrap64 (rd s0_0 s0_1))))) + 1442695040888963407)) / 1099511627776) 255), wrap64 (s0_1 + 1), IntKind.u64.wrap ((IntKind.u64.wrap ((IntKind.u64.wrap (s0_2 * 6364136223846793005)) + (IntKind.u64.wrap (wrap64 (rd s0_0 s0_1))))) + 1442695040888963407)))) else (none)) else (if (wrap64 (s0_1 + 1)) ≤ (s0_0.length : Int) then (some (0, wrap64 (s0_1 + 1), IntKind.u64.wrap ((IntKind.u64.wrap (IntKind.u64.wrap (s0_2 * 6364136223846793005))) + 1442695040888963407))) else (some (wrap64 (Go.bits .and .u64 ((IntKind.u64.wrap ((IntKind.u64.wrap (IntKind.u64.wrap (s0_2 * 6364136223846793005))) + 1442695040888963407)) / 1099511627776) 255), wrap64 (s0_1 + 1), IntKind.u64.wrap ((IntKind.u64.wrap (IntKind.u64.wrap (s0_2 * 6364136223846793005))) + 1442695040888963407))))) = some (r1, r2, r3) := h
 clear h
 by_cases c2 : s0_1 < (s0_0.length : Int)
 ·
  rw [if_pos c2] at H
  have c2b0 : decide (s0_1 < (s0_0.length : Int)) = true := decide_eq_true c2
  clear c2
  by_cases c3 : 0 ≤ s0_1
  ·
   rw [if_pos c3] at H
   have c3b0 : decide (0 ≤ s0_1) = true := decide_eq_true c3
   clear c3
   by_cases c4 : (wrap64 (s0_1 + 1)) ≤ (s0_0.length : Int)
   ·
    rw [if_pos c4] at H
    have c4b0 : decide ((wrap64 (s0_1 + 1)) ≤ (s0_0.length : Int)) = true := decide_eq_true c4
    clear c4
    simp only [Option.some.injEq, Prod.mk.injEq] at H
    obtain ⟨rfl, rfl, rfl⟩ := H
    obtain ⟨ASz5_0, cSz5_0, HGz5, hgz5, HSz5_0⟩ := HI0.out
    have hcz5_0 := cellS67_0 HGz5
    have hcz5_1 := cellS67_1 HGz5
    have hcz5_2 := cellS67_2 HGz5
    have hfz5_1 := blk_frozen HGz5 1
    have hfz5_2 := blk_frozen HGz5 2
    clear HGz5 hgz5
    have p116 : 0 ≤ (s0_1 : Int) := of_decide_eq_true (by first | (with_reducible assumption) | assumption)
    have q116 : s0_1 < (s0_0.length : Int) := of_decide_eq_true (by first | (with_reducible assumption) | assumption)
    obtain ⟨ad116, e116, hx116_0⟩ := Kd.at_int HSz5_0 s0_1 p116 q116
    cases e116
    replace hx116_0 := pw_cell_below HB.out hx116_0
    replace p116 := eq_true p116
    replace q116 := eq_true q116
    go_enter Try.func81, Try.ntmps81
    go_wp2
    repeat (go_quiet (fail); try go_wp2)
    go_ret
    exact ⟨by first | rfl | (simp [errW_none, errW_some] <;> rfl) | (simp [*, errW_none, errW_some] <;> rfl), (z81_0 HI0), (z81_1 HB), (z81_2 HK)⟩
   ·
    rw [if_neg c4] at H
    have c4b0 : decide ((wrap64 (s0_1 + 1)) ≤ (s0_0.length : Int)) = false := decide_eq_false c4
    clear c4
    simp only [Option.some.injEq, Prod.mk.injEq] at H
    obtain ⟨rfl, rfl, rfl⟩ := H
    obtain ⟨ASz6_0, cSz6_0, HGz6, hgz6, HSz6_0⟩ := HI0.out
    have hcz6_0 := cellS67_0 HGz6
    have hcz6_1 := cellS67_1 HGz6
    have hcz6_2 := cellS67_2 HGz6
    have hfz6_1 := blk_frozen HGz6 1
    have hfz6_2 := blk_frozen HGz6 2
    clear HGz6 hgz6
    have p116 : 0 ≤ (s0_1 : Int) := of_decide_eq_true (by first | (with_reducible assumption) | assumption)
    have q116 : s0_1 < (s0_0.length : Int) := of_decide_eq_true (by first | (with_reducible assumption) | assumption)
    obtain ⟨ad116, e116, hx116_0⟩ := Kd.at_int HSz6_0 s0_1 p116 q116
    cases e116
    replace hx116_0 := pw_cell_below HB.out hx116_0
    replace p116 := eq_true p116
    replace q116 := eq_true q116
    go_enter Try.func81, Try.ntmps81
    go_wp2
    repeat (go_quiet (fail); try go_wp2)
    go_ret
    exact ⟨by first | rfl | (simp [errW_none, errW_some] <;> rfl) | (simp [*, errW_none, errW_some] <;> rfl), (z81_0 HI0), (z81_1 HB), (z81_2 HK)⟩
  ·
   rw [if_neg c3] at H
   exact absurd H (by simp)
 ·
  rw [if_neg c2] at H
  have c2b0 : decide (s0_1 < (s0_0.length : Int)) = false := decide_eq_false c2
  clear c2
  by_cases c7 : (wrap64 (s0_1 + 1)) ≤ (s0_0.length : Int)
  ·
   rw [if_pos c7] at H
   have c7b0 : decide ((wrap64 (s0_1 + 1)) ≤ (s0_0.length : Int)) = true := decide_eq_true c7
   clear c7
   simp only [Option.some.injEq, Prod.mk.injEq] at H
   obtain ⟨rfl, rfl, rfl⟩ := H
   obtain ⟨ASz8_0, cSz8_0, HGz8, hgz8, HSz8_0⟩ := HI0.out
   have hcz8_0 := cellS67_0 HGz8
   have hcz8_1 := cellS67_1 HGz8
   have hcz8_2 := cellS67_2 HGz8
   have hfz8_1 := blk_frozen HGz8 1
   have hfz8_2 := blk_frozen HGz8 2
   clear HGz8 hgz8
   go_enter Try.func81, Try.ntmps81
   go_wp2
   repeat (go_quiet (fail); try go_wp2)
   go_ret
   exact ⟨by first | rfl | (simp [errW_none, errW_some] <;> rfl) | (simp [*, errW_none, errW_some] <;> rfl), (z81_0 HI0), (z81_1 HB), (z81_2 HK)⟩
  ·
   rw [if_neg c7] at H
   have c7b0 : decide ((wrap64 (s0_1 + 1)) ≤ (s0_0.length : Int)) = false := decide_eq_false c7
   clear c7
   simp only [Option.some.injEq, Prod.mk.injEq] at H
   obtain ⟨rfl, rfl, rfl⟩ := H
   obtain ⟨ASz9_0, cSz9_0, HGz9, hgz9, HSz9_0⟩ := HI0.out
   have hcz9_0 := cellS67_0 HGz9
   have hcz9_1 := cellS67_1 HGz9
   have hcz9_2 := cellS67_2 HGz9
   have hfz9_1 := blk_frozen HGz9 1
   have hfz9_2 := blk_frozen HGz9 2
   clear HGz9 hgz9
   go_enter Try.func81, Try.ntmps81
   go_wp2
   repeat (go_quiet (fail); try go_wp2)
   go_ret
   exact ⟨by first | rfl | (simp [errW_none, errW_some] <;> rfl) | (simp [*, errW_none, errW_some] <;> rfl), (z81_0 HI0), (z81_1 HB), (z81_2 HK)⟩
/-! ### spec_l1Cur_pick: function 50 -/
theorem z50_0 {P Q : Prop} (h : Aside0 (Q)) (f : Q → P := by intro h_; repeat (first | (with_reducible first | exact h_ | apply IsS67.alloc | apply IsS67.drewN | apply IsS67.drew | apply IsS67.set_1 | apply IsS67.set_2) | exact h_)) : P := f h.out
theorem z50_1 {w W0 W1 : World} {B : Nat} (h : Aside0 (Below B w W0)) (f : Below B w W0 → Below B w W1 := by intro h_; repeat (first | (with_reducible first | exact h_ | apply below_alloc | apply pw_below_drewN | apply below_drew1 | refine below_set ?_ (IsS67.ge (Aside0.out (by assumption)))) | exact h_)) : Below B w W1 := f h.out
theorem z50_2 {w W0 W1 : World} {g : Nat} {row : Option Nat} (h : Aside0 (KeepBut w W0 g row)) (f : KeepBut w W0 g row → KeepBut w W1 g row := by intro h_; repeat (first | (with_reducible first | exact h_ | apply KeepBut.set_ | apply keep_drewN | apply keep_drew | apply keep_alloc) | exact h_)) : KeepBut w W1 g row := f h.out
set_option maxHeartbeats 8000000 in
set_option maxRecDepth 100000 in
theorem spec_l1Cur_pick.calls (g : Nat) (s0_0 : List Int) (s0_1 : Int) (s0_2 : Int) (a1 : Int) (r1 : Int) (r2 : Int) (r3 : Int) (w0 w : World) (hI : IsS67 w0 w g s0_0 s0_1 s0_2) (hB : Below w0.heap.size w0 w) (h : spec_l1Cur_pick.f s0_0 s0_1 s0_2 a1 = some (r1, r2, r3)) :
  Calls Try.prog 50 #[.pointer (some ⟨g, 0, none⟩), .int .i64 a1] w fun e w' => e = .returned (.int .i64 r1) ∧ IsS67 w0 w' g s0_0 r2 r3 ∧ Below w0.heap.size w0 w' ∧ KeepBut w w' g none := by
 have HI0 := Aside0.mk hI
 have HK := Aside0.mk (KeepBut.refl w g none)
 have HL := Aside0.mk hB.size
 clear hI
 have HW0 := Aside0.mk hB.size
 have HB := Aside0.mk hB
 clear hB
 have H : (if a1 ≤ 1 then (some (0, s0_1, s0_2)) else ((spec_l1Cur_next.f s0_0 s0_1 s0_2).bind fun bt117 => (if a1 > 200 then ((spec_l1Cur_next.f s0_0 bt117.2.1 bt117.2.2).bind fun bt120 => (if a1 = 0 then (none) else (some (Int.tmod (wrap64 ((wrap64 (bt117.1 * 256)) + bt120.1)) a1, bt120.2.1, bt120.2.2)))) else (if a1 = 0 then (none) else (some (Int.tmod bt117.1 a1, bt117.2.1, bt117.2.2)))))) = some (r1, r2, r3) := h
 clear h
 by_cases c3 : a1 ≤ 1
 ·
  rw [if_pos c3] at H
  have c3b0 : decide (a1 ≤ 1) = true := decide_eq_true c3
  clear c3
  simp only [Option.some.injEq, Prod.mk.injEq] at H
  obtain ⟨rfl, rfl, rfl⟩ := H
  go_enter Try.func50, Try.ntmps50
  go_wp2
  go_ret
  exact ⟨by first | rfl | (simp [errW_none, errW_some] <;> rfl) | (simp [*, errW_none, errW_some] <;> rfl), (z50_0 HI0), (z50_1 HB), (z50_2 HK)⟩
 ·
  rw [if_neg c3] at H
  have c3b0 : decide (a1 ≤ 1) = false := decide_eq_false c3
  clear c3
  replace H := Option.bind_eq_some_iff.mp H
  obtain ⟨⟨t117, t118, t119⟩, A40, H⟩ := H
  replace H : (if a1 > 200 then ((spec_l1Cur_next.f s0_0 t118 t119).bind fun bt120 => (if a1 = 0 then (none) else (some (Int.tmod (wrap64 ((wrap64 (t117 * 256)) + bt120.1)) a1, bt120.2.1, bt120.2.2)))) else (if a1 = 0 then (none) else (some (Int.tmod t117 a1, t118, t119)))) = some (r1, r2, r3) := H
  have A4 := Aside0.mk A40
  clear A40
  by_cases c5 : a1 > 200
  ·
   rw [if_pos c5] at H
   have c5b0 : decide (200 < a1) = true := decide_eq_true c5
   clear c5
   replace H := Option.bind_eq_some_iff.mp H
   obtain ⟨⟨t120, t121, t122⟩, A60, H⟩ := H
   replace H : (if a1 = 0 then (none) else (some (Int.tmod (wrap64 ((wrap64 (t117 * 256)) + t120)) a1, t121, t122))) = some (r1, r2, r3) := H
   have A6 := Aside0.mk A60
   clear A60
   by_cases c7 : a1 = 0
   ·
    rw [if_pos c7] at H
    exact absurd H (by simp)
   ·
    rw [if_neg c7] at H
    have c7b0 : (a1 == 0) = false := beq_eq_false_iff_ne.mpr c7
    have c7b1 : (a1 != 0) = true := bne_iff_ne.mpr c7
    simp only [Option.some.injEq, Prod.mk.injEq] at H
    obtain ⟨rfl, rfl, rfl⟩ := H
    go_enter Try.func50, Try.ntmps50
    go_wp2_with (first | ((with_reducible refine gate_callee (f := 81) rfl ?_); refine goesL_ (some 9) rfl rfl Try.func81 (by kernel_rfl) rfl #[.pointer (some ⟨g, 0, none⟩)] rfl zq6 ?_; (with_reducible refine (spec_l1Cur_next.calls g s0_0 s0_1 s0_2 t117 t118 t119 w0 _ ?side1 ?side2 A4.out).mono ?_); (case side1 => exact z50_0 HI0); (case side2 => exact z50_1 HB); rintro e w8 ⟨rfl, hi, hb, hk⟩; refine ⟨_, rfl, ?_⟩; replace HK := Aside0.mk (KeepBut.trans (z50_2 HK) hk (.inl rfl)); replace HB := Aside0.mk (hb); replace HI0 := Aside0.mk (hi); (try clear hb); (try clear hb2); (try clear hk); (try clear hi)) | ((with_reducible refine gate_callee (f := 81) rfl ?_); refine goesL_ (some 15) rfl rfl Try.func81 (by kernel_rfl) rfl #[.pointer (some ⟨g, 0, none⟩)] rfl zq6 ?_; (with_reducible refine (spec_l1Cur_next.calls g s0_0 t118 t119 t120 t121 t122 w0 _ ?side1 ?side2 A6.out).mono ?_); (case side1 => exact z50_0 HI0); (case side2 => exact z50_1 HB); rintro e w9 ⟨rfl, hi, hb, hk⟩; refine ⟨_, rfl, ?_⟩; replace HK := Aside0.mk (KeepBut.trans (z50_2 HK) hk (.inl rfl)); replace HB := Aside0.mk (hb); replace HI0 := Aside0.mk (hi); (try clear hb); (try clear hb2); (try clear hk); (try clear hi)))
    go_ret
    exact ⟨by first | rfl | (simp [errW_none, errW_some] <;> rfl) | (simp [*, errW_none, errW_some] <;> rfl), (z50_0 HI0), (z50_1 HB), (z50_2 HK)⟩
  ·
   rw [if_neg c5] at H
   have c5b0 : decide (200 < a1) = false := decide_eq_false c5
   clear c5
   by_cases c10 : a1 = 0
   ·
    rw [if_pos c10] at H
    exact absurd H (by simp)
   ·
    rw [if_neg c10] at H
    have c10b0 : (a1 == 0) = false := beq_eq_false_iff_ne.mpr c10
    have c10b1 : (a1 != 0) = true := bne_iff_ne.mpr c10
    simp only [Option.some.injEq, Prod.mk.injEq] at H
    obtain ⟨rfl, rfl, rfl⟩ := H
    go_enter Try.func50, Try.ntmps50
    go_wp2_with (first | ((with_reducible refine gate_callee (f := 81) rfl ?_); refine goesL_ (some 9) rfl rfl Try.func81 (by kernel_rfl) rfl #[.pointer (some ⟨g, 0, none⟩)] rfl zq6 ?_; (with_reducible refine (spec_l1Cur_next.calls g s0_0 s0_1 s0_2 t117 t118 t119 w0 _ ?side1 ?side2 A4.out).mono ?_); (case side1 => exact z50_0 HI0); (case side2 => exact z50_1 HB); rintro e w11 ⟨rfl, hi, hb, hk⟩; refine ⟨_, rfl, ?_⟩; replace HK := Aside0.mk (KeepBut.trans (z50_2 HK) hk (.inl rfl)); replace HB := Aside0.mk (hb); replace HI0 := Aside0.mk (hi); (try clear hb); (try clear hb2); (try clear hk); (try clear hi)))
    go_ret
    exact ⟨by first | rfl | (simp [errW_none, errW_some] <;> rfl) | (simp [*, errW_none, errW_some] <;> rfl), (z50_0 HI0), (z50_1 HB), (z50_2 HK)⟩
/-! ### spec_l1Cur_among: function 64 -/
theorem z64_0 {P Q : Prop} (h : Aside0 (Q)) (f : Q → P := by intro h_; repeat (first | (with_reducible first | exact h_ | apply IsS67.alloc | apply IsS67.drewN | apply IsS67.drew | apply IsS67.set_1 | apply IsS67.set_2) | exact h_)) : P := f h.out
theorem z64_1 {w W0 W1 : World} {B : Nat} (h : Aside0 (Below B w W0)) (f : Below B w W0 → Below B w W1 := by intro h_; repeat (first | (with_reducible first | exact h_ | apply below_alloc | apply pw_below_drewN | apply below_drew1 | refine below_set ?_ (IsS67.ge (Aside0.out (by assumption)))) | exact h_)) : Below B w W1 := f h.out
theorem z64_2 {w W0 W1 : World} {g : Nat} {row : Option Nat} (h : Aside0 (KeepBut w W0 g row)) (f : KeepBut w W0 g row → KeepBut w W1 g row := by intro h_; repeat (first | (with_reducible first | exact h_ | apply KeepBut.set_ | apply keep_drewN | apply keep_drew | apply keep_alloc) | exact h_)) : KeepBut w W1 g row := f h.out
set_option maxHeartbeats 8000000 in
set_option maxRecDepth 100000 in
theorem spec_l1Cur_among.calls (g : Nat) (s0_0 : List Int) (s0_1 : Int) (s0_2 : Int) (A1 : Option Addr) (c1 : Nat) (l1 : List Int) (r1 : Int) (r2 : Int) (r3 : Int) (w0 w : World) (hI : IsS67 w0 w g s0_0 s0_1 s0_2) (hB : Below w0.heap.size w0 w) (hr1 : Kd.C (Kd.int .i64) w A1 l1.length l1) (hc1 : l1.length ≤ c1) (hf1 : ∀ ad, A1 = some ad → 0 < l1.length → ad.block ≠ g) (h : spec_l1Cur_among.f s0_0 s0_1 s0_2 l1 = some (r1, r2, r3)) :
  Calls Try.prog 64 #[.pointer (some ⟨g, 0, none⟩), .slice A1 l1.length c1] w fun e w' => e = .returned (.int .i64 r1) ∧ IsS67 w0 w' g s0_0 r2 r3 ∧ Below w0.heap.size w0 w' ∧ KeepBut w w' g none := by
 have HR1 := Aside0.mk hr1
 have HC1 := Aside0.mk hc1
 clear hr1 hc1
 have HI0 := Aside0.mk hI
 have HK := Aside0.mk (KeepBut.refl w g none)
 have HL := Aside0.mk hB.size
 clear hI
 have HW0 := Aside0.mk hB.size
 have HB := Aside0.mk hB
 clear hB
 have H : ((spec_l1Cur_pick.f s0_0 s0_1 s0_2 (l1.length : Int)).bind fun bt123 => (if 0 ≤ bt123.1 then (if bt123.1 < (l1.length : Int) then (some (rd l1 bt123.1, bt123.2.1, bt123.2.2)) else (none)) else (none))) = some (r1, r2, r3) := h
 clear h
 replace H := Option.bind_eq_some_iff.mp H
 obtain ⟨⟨t123, t124, t125⟩, A30, H⟩ := H
 replace H : (if 0 ≤ t123 then (if t123 < (l1.length : Int) then (some (rd l1 t123, t124, t125)) else (none)) else (none)) = some (r1, r2, r3) := H
 have A3 := Aside0.mk A30
 clear A30
 by_cases c4 : 0 ≤ t123
 ·
  rw [if_pos c4] at H
  have c4b0 : decide (0 ≤ t123) = true := decide_eq_true c4
  clear c4
  by_cases c5 : t123 < (l1.length : Int)
  ·
   rw [if_pos c5] at H
   have c5b0 : decide (t123 < (l1.length : Int)) = true := decide_eq_true c5
   clear c5
   simp only [Option.some.injEq, Prod.mk.injEq] at H
   obtain ⟨rfl, rfl, rfl⟩ := H
   go_enter Try.func64, Try.ntmps64
   go_wp2_with (first | ((with_reducible refine gate_callee (f := 50) rfl ?_); refine goesL_ (some 9) rfl rfl Try.func50 (by kernel_rfl) rfl #[.pointer (some ⟨g, 0, none⟩), .int .i64 (l1.length : Int)] rfl zq6 ?_; (with_reducible refine (spec_l1Cur_pick.calls g s0_0 s0_1 s0_2 (l1.length : Int) t123 t124 t125 w0 _ ?side1 ?side2 A3.out).mono ?_); (case side1 => exact z64_0 HI0); (case side2 => exact z64_1 HB); rintro e w6 ⟨rfl, hi, hb, hk⟩; refine ⟨_, rfl, ?_⟩; replace HK := Aside0.mk (KeepBut.trans (z64_2 HK) hk (.inl rfl)); replace HB := Aside0.mk (hb); replace HI0 := Aside0.mk (hi); (try clear hb); (try clear hb2); (try clear hk); (try clear hi); have p126 : 0 ≤ (t123 : Int) := of_decide_eq_true (by first | (with_reducible assumption) | assumption); have q126 : t123 < (l1.length : Int) := of_decide_eq_true (by first | (with_reducible assumption) | assumption); obtain ⟨ad126, e126, hx126_0⟩ := Kd.at_int HR1.out t123 p126 q126; cases e126; replace hx126_0 := keep_cell HK.out hx126_0 (by first | (rw [add_block]; exact hf1 _ rfl (by omega)) | exact hf1 _ rfl (by omega) | exact hf1 ad126 rfl (by omega)); replace p126 := eq_true p126; replace q126 := eq_true q126))
   go_ret
   exact ⟨by first | rfl | (simp [errW_none, errW_some] <;> rfl) | (simp [*, errW_none, errW_some] <;> rfl), (z64_0 HI0), (z64_1 HB), (z64_2 HK)⟩
  ·
   rw [if_neg c5] at H
   exact absurd H (by simp)
 ·
  rw [if_neg c4] at H
  exact absurd H (by simp)
/-! ### spec_l1Cur_one: function 52 -/
theorem z52_0 {P Q : Prop} (h : Aside0 (Q)) (f : Q → P := by intro h_; repeat (first | (with_reducible first | exact h_ | apply IsS67.alloc | apply IsS67.drewN | apply IsS67.drew | apply IsS67.set_1 | apply IsS67.set_2) | exact h_)) : P := f h.out
theorem z52_1 {w W0 W1 : World} {B : Nat} (h : Aside0 (Below B w W0)) (f : Below B w W0 → Below B w W1 := by intro h_; repeat (first | (with_reducible first | exact h_ | apply below_alloc | apply pw_below_drewN | apply below_drew1 | refine below_set ?_ (IsS67.ge (Aside0.out (by assumption)))) | exact h_)) : Below B w W1 := f h.out
theorem z52_2 {w W0 W1 : World} {g : Nat} {row : Option Nat} (h : Aside0 (KeepBut w W0 g row)) (f : KeepBut w W0 g row → KeepBut w W1 g row := by intro h_; repeat (first | (with_reducible first | exact h_ | apply KeepBut.set_ | apply keep_drewN | apply keep_drew | apply keep_alloc) | exact h_)) : KeepBut w W1 g row := f h.out
set_option maxHeartbeats 8000000 in
set_option maxRecDepth 100000 in
theorem spec_l1Cur_one.calls (g : Nat) (s0_0 : List Int) (s0_1 : Int) (s0_2 : Int) (a1 : Int) (r1 : Bool) (r2 : Int) (r3 : Int) (w0 w : World) (hI : IsS67 w0 w g s0_0 s0_1 s0_2) (hB : Below w0.heap.size w0 w) (h : spec_l1Cur_one.f s0_0 s0_1 s0_2 a1 = some (r1, r2, r3)) :
  Calls Try.prog 52 #[.pointer (some ⟨g, 0, none⟩), .int .i64 a1] w fun e w' => e = .returned (.bool r1) ∧ IsS67 w0 w' g s0_0 r2 r3 ∧ Below w0.heap.size w0 w' ∧ KeepBut w w' g none := by
 have HI0 := Aside0.mk hI
 have HK := Aside0.mk (KeepBut.refl w g none)
 have HL := Aside0.mk hB.size
 clear hI
 have HW0 := Aside0.mk hB.size
 have HB := Aside0.mk hB
 clear hB
 have H : ((spec_l1Cur_pick.f s0_0 s0_1 s0_2 a1).bind fun bt127 => (some ((bt127.1 == 0), bt127.2.1, bt127.2.2))) = some (r1, r2, r3) := h
 clear h
 replace H := Option.bind_eq_some_iff.mp H
 obtain ⟨⟨t127, t128, t129⟩, A30, H⟩ := H
 replace H : (some ((t127 == 0), t128, t129)) = some (r1, r2, r3) := H
 have A3 := Aside0.mk A30
 clear A30
 simp only [Option.some.injEq, Prod.mk.injEq] at H
 obtain ⟨rfl, rfl, rfl⟩ := H
 go_enter Try.func52, Try.ntmps52
 go_wp2_with (first | ((with_reducible refine gate_callee (f := 50) rfl ?_); refine goesL_ (some 7) rfl rfl Try.func50 (by kernel_rfl) rfl #[.pointer (some ⟨g, 0, none⟩), .int .i64 a1] rfl zq6 ?_; (with_reducible refine (spec_l1Cur_pick.calls g s0_0 s0_1 s0_2 a1 t127 t128 t129 w0 _ ?side1 ?side2 A3.out).mono ?_); (case side1 => exact z52_0 HI0); (case side2 => exact z52_1 HB); rintro e w4 ⟨rfl, hi, hb, hk⟩; refine ⟨_, rfl, ?_⟩; replace HK := Aside0.mk (KeepBut.trans (z52_2 HK) hk (.inl rfl)); replace HB := Aside0.mk (hb); replace HI0 := Aside0.mk (hi); (try clear hb); (try clear hb2); (try clear hk); (try clear hi)))
 go_ret
 exact ⟨by first | rfl | (simp [errW_none, errW_some] <;> rfl) | (simp [*, errW_none, errW_some] <;> rfl), (z52_0 HI0), (z52_1 HB), (z52_2 HK)⟩
/-! ### spec_poWith: function 70 -/
set_option maxHeartbeats 8000000 in
set_option maxRecDepth 100000 in
theorem spec_poWith.calls (a0_0 : Int) (a0_1 : Int) (a0_2 : Int) (a0_3 : Int) (a1 : Int) (a2 : Int) (r1 : Int) (r2 : Int) (r3 : Int) (r4 : Int) (w : World) (h : spec_poWith.f a0_0 a0_1 a0_2 a0_3 a1 a2 = some (r1, r2, r3, r4)) :
  Calls Try.prog 70 #[.agg #[.int .i64 a0_0, .int .i64 a0_1, .int .i64 a0_2, .int .i64 a0_3], .int .i64 a1, .int .i64 a2] w fun e w' => e = .returned (.agg #[.int .i64 r1, .int .i64 r2, .int .i64 r3, .int .i64 r4]) ∧ Below w.heap.size w w' := by
 have hu51 := Try.underlying51
 have HB := Aside0.mk (Below.refl w.heap.size w)
 have H : (if a1 = 0 then (some (a0_0, a2, a0_2, a0_3)) else (if a1 = 1 then (some (a0_0, a0_1, a2, a0_3)) else (some (a0_0, a0_1, a0_2, a2)))) = some (r1, r2, r3, r4) := h
 clear h
 by_cases c4 : a1 = 0
 ·
  rw [if_pos c4] at H
  have c4b0 : (a1 == 0) = true := beq_iff_eq.mpr c4
  have c4b1 : (a1 != 0) = false := bne_eq_false_iff_eq.mpr c4
  clear c4
  simp only [Option.some.injEq, Prod.mk.injEq] at H
  obtain ⟨rfl, rfl, rfl, rfl⟩ := H
  go_enter Try.func70, Try.ntmps70
  go_wp2_with (first | ((with_reducible refine gate_dst (N := 3) rfl ?_); refine zbe (N := 3) (cs := #[.int .i64 a0_0, .int .i64 a0_1, .int .i64 a0_2, .int .i64 a0_3]) (t := 51) ?_; intro gb201 hg w5 hbox hb; have BK201 := Aside0.mk (hbox); have GW201 := Aside0.mk (zge (zb0 HB) hg); have GE201 := GW201; replace HB := Aside0.mk (below_step (zb0 HB) hb); clear hb hbox hg) | ((with_reducible refine gate_dst (N := 6) rfl ?_); refine zbe (N := 6) (cs := #[.int .i64 0, .int .i64 0, .int .i64 0, .int .i64 0]) (t := 51) ?_; intro gb202 hg w6 hbox hb; have BK202 := Aside0.mk (hbox); have GW202 := Aside0.mk (zge (zb1 HB) hg); have GE202 := GW202; have NB201_202 := Aside0.mk (zlt BK201 hg); have NB202_201 := Aside0.mk (zgt BK201 hg); replace BK201 := Aside0.mk (zbb BK201 hb); replace HB := Aside0.mk (below_step (zb1 HB) hb); clear hb hbox hg; have hnb7 := NB201_202.out; have hnc7 := NB202_201.out; have hcz8_0 : w6.cell? ⟨gb201, 0, none⟩ = some (.int .i64 a0_0) := zc BK201 0; have hcz8_1 : w6.cell? ⟨gb201, 1, none⟩ = some (.int .i64 a0_1) := zc BK201 1; have hcz8_2 : w6.cell? ⟨gb201, 2, none⟩ = some (.int .i64 a0_2) := zc BK201 2; have hcz8_3 : w6.cell? ⟨gb201, 3, none⟩ = some (.int .i64 a0_3) := zc BK201 3; have hfz8_0 := blk_frozen BK201.out 0; have hfz8_1 := blk_frozen BK201.out 1; have hfz8_2 := blk_frozen BK201.out 2; have hfz8_3 := blk_frozen BK201.out 3; have hcz9_0 : w6.cell? ⟨gb202, 0, none⟩ = some (.int .i64 0) := zc BK202 0; have hcz9_1 : w6.cell? ⟨gb202, 1, none⟩ = some (.int .i64 0) := zc BK202 1; have hcz9_2 : w6.cell? ⟨gb202, 2, none⟩ = some (.int .i64 0) := zc BK202 2; have hcz9_3 : w6.cell? ⟨gb202, 3, none⟩ = some (.int .i64 0) := zc BK202 3; have hfz9_0 := blk_frozen BK202.out 0; have hfz9_1 := blk_frozen BK202.out 1; have hfz9_2 := blk_frozen BK202.out 2; have hfz9_3 := blk_frozen BK202.out 3))
  refine bodyPost_ret (results_cell_row rfl _ _ gb202 51 #[.int .i64 a0_0, .int .i64 a2, .int .i64 a0_2, .int .i64 a0_3] (0, 0) _ rfl (by (with_reducible repeat (first | refine blk_drewN ?_ _ | refine blk_drew ?_ | refine blk_alloc ?_ _)); refine blk_put (cs := #[.int .i64 a0_0, .int .i64 a2, .int .i64 a0_2, .int .i64 0]) ?_ 3 _ rfl; (with_reducible repeat (first | refine blk_drewN ?_ _ | refine blk_drew ?_ | refine blk_alloc ?_ _)); refine blk_put (cs := #[.int .i64 a0_0, .int .i64 a2, .int .i64 0, .int .i64 0]) ?_ 2 _ rfl; (with_reducible repeat (first | refine blk_drewN ?_ _ | refine blk_drew ?_ | refine blk_alloc ?_ _)); refine blk_put (cs := #[.int .i64 a0_0, .int .i64 0, .int .i64 0, .int .i64 0]) ?_ 1 _ rfl; (with_reducible repeat (first | refine blk_drewN ?_ _ | refine blk_drew ?_ | refine blk_alloc ?_ _)); refine blk_put (cs := #[.int .i64 0, .int .i64 0, .int .i64 0, .int .i64 0]) ?_ 0 _ rfl; (with_reducible repeat (first | refine blk_drewN ?_ _ | refine blk_drew ?_ | refine blk_alloc ?_ _)); refine blk_far ?_ NB202_201.out _; (with_reducible repeat (first | refine blk_drewN ?_ _ | refine blk_drew ?_ | refine blk_alloc ?_ _)); exact BK202.out) Try.underlying51 rfl (by kernel_rfl)) rfl ?_
  exact ⟨by first | rfl | (simp [errW_none, errW_some] <;> rfl) | (simp [*, errW_none, errW_some] <;> rfl), (zb1 HB)⟩
 ·
  rw [if_neg c4] at H
  have c4b0 : (a1 == 0) = false := beq_eq_false_iff_ne.mpr c4
  have c4b1 : (a1 != 0) = true := bne_iff_ne.mpr c4
  by_cases c10 : a1 = 1
  ·
   rw [if_pos c10] at H
   have c10b0 : (a1 == 1) = true := beq_iff_eq.mpr c10
   have c10b1 : (a1 != 1) = false := bne_eq_false_iff_eq.mpr c10
   clear c10
   simp only [Option.some.injEq, Prod.mk.injEq] at H
   obtain ⟨rfl, rfl, rfl, rfl⟩ := H
   go_enter Try.func70, Try.ntmps70
   go_wp2_with (first | ((with_reducible refine gate_dst (N := 3) rfl ?_); refine zbe (N := 3) (cs := #[.int .i64 a0_0, .int .i64 a0_1, .int .i64 a0_2, .int .i64 a0_3]) (t := 51) ?_; intro gb201 hg w11 hbox hb; have BK201 := Aside0.mk (hbox); have GW201 := Aside0.mk (zge (zb0 HB) hg); have GE201 := GW201; replace HB := Aside0.mk (below_step (zb0 HB) hb); clear hb hbox hg) | ((with_reducible refine gate_dst (N := 6) rfl ?_); refine zbe (N := 6) (cs := #[.int .i64 0, .int .i64 0, .int .i64 0, .int .i64 0]) (t := 51) ?_; intro gb202 hg w12 hbox hb; have BK202 := Aside0.mk (hbox); have GW202 := Aside0.mk (zge (zb1 HB) hg); have GE202 := GW202; have NB201_202 := Aside0.mk (zlt BK201 hg); have NB202_201 := Aside0.mk (zgt BK201 hg); replace BK201 := Aside0.mk (zbb BK201 hb); replace HB := Aside0.mk (below_step (zb1 HB) hb); clear hb hbox hg; have hnb13 := NB201_202.out; have hnc13 := NB202_201.out; have hcz14_0 : w12.cell? ⟨gb201, 0, none⟩ = some (.int .i64 a0_0) := zc BK201 0; have hcz14_1 : w12.cell? ⟨gb201, 1, none⟩ = some (.int .i64 a0_1) := zc BK201 1; have hcz14_2 : w12.cell? ⟨gb201, 2, none⟩ = some (.int .i64 a0_2) := zc BK201 2; have hcz14_3 : w12.cell? ⟨gb201, 3, none⟩ = some (.int .i64 a0_3) := zc BK201 3; have hfz14_0 := blk_frozen BK201.out 0; have hfz14_1 := blk_frozen BK201.out 1; have hfz14_2 := blk_frozen BK201.out 2; have hfz14_3 := blk_frozen BK201.out 3; have hcz15_0 : w12.cell? ⟨gb202, 0, none⟩ = some (.int .i64 0) := zc BK202 0; have hcz15_1 : w12.cell? ⟨gb202, 1, none⟩ = some (.int .i64 0) := zc BK202 1; have hcz15_2 : w12.cell? ⟨gb202, 2, none⟩ = some (.int .i64 0) := zc BK202 2; have hcz15_3 : w12.cell? ⟨gb202, 3, none⟩ = some (.int .i64 0) := zc BK202 3; have hfz15_0 := blk_frozen BK202.out 0; have hfz15_1 := blk_frozen BK202.out 1; have hfz15_2 := blk_frozen BK202.out 2; have hfz15_3 := blk_frozen BK202.out 3))
   refine bodyPost_ret (results_cell_row rfl _ _ gb202 51 #[.int .i64 a0_0, .int .i64 a0_1, .int .i64 a2, .int .i64 a0_3] (0, 0) _ rfl (by (with_reducible repeat (first | refine blk_drewN ?_ _ | refine blk_drew ?_ | refine blk_alloc ?_ _)); refine blk_put (cs := #[.int .i64 a0_0, .int .i64 a0_1, .int .i64 a2, .int .i64 0]) ?_ 3 _ rfl; (with_reducible repeat (first | refine blk_drewN ?_ _ | refine blk_drew ?_ | refine blk_alloc ?_ _)); refine blk_put (cs := #[.int .i64 a0_0, .int .i64 a0_1, .int .i64 0, .int .i64 0]) ?_ 2 _ rfl; (with_reducible repeat (first | refine blk_drewN ?_ _ | refine blk_drew ?_ | refine blk_alloc ?_ _)); refine blk_put (cs := #[.int .i64 a0_0, .int .i64 0, .int .i64 0, .int .i64 0]) ?_ 1 _ rfl; (with_reducible repeat (first | refine blk_drewN ?_ _ | refine blk_drew ?_ | refine blk_alloc ?_ _)); refine blk_put (cs := #[.int .i64 0, .int .i64 0, .int .i64 0, .int .i64 0]) ?_ 0 _ rfl; (with_reducible repeat (first | refine blk_drewN ?_ _ | refine blk_drew ?_ | refine blk_alloc ?_ _)); refine blk_far ?_ NB202_201.out _; (with_reducible repeat (first | refine blk_drewN ?_ _ | refine blk_drew ?_ | refine blk_alloc ?_ _)); exact BK202.out) Try.underlying51 rfl (by kernel_rfl)) rfl ?_
   exact ⟨by first | rfl | (simp [errW_none, errW_some] <;> rfl) | (simp [*, errW_none, errW_some] <;> rfl), (zb1 HB)⟩
  ·
   rw [if_neg c10] at H
   have c10b0 : (a1 == 1) = false := beq_eq_false_iff_ne.mpr c10
   have c10b1 : (a1 != 1) = true := bne_iff_ne.mpr c10
   simp only [Option.some.injEq, Prod.mk.injEq] at H
   obtain ⟨rfl, rfl, rfl, rfl⟩ := H
   go_enter Try.func70, Try.ntmps70
   go_wp2_with (first | ((with_reducible refine gate_dst (N := 3) rfl ?_); refine zbe (N := 3) (cs := #[.int .i64 a0_0, .int .i64 a0_1, .int .i64 a0_2, .int .i64 a0_3]) (t := 51) ?_; intro gb201 hg w16 hbox hb; have BK201 := Aside0.mk (hbox); have GW201 := Aside0.mk (zge (zb0 HB) hg); have GE201 := GW201; replace HB := Aside0.mk (below_step (zb0 HB) hb); clear hb hbox hg) | ((with_reducible refine gate_dst (N := 6) rfl ?_); refine zbe (N := 6) (cs := #[.int .i64 0, .int .i64 0, .int .i64 0, .int .i64 0]) (t := 51) ?_; intro gb202 hg w17 hbox hb; have BK202 := Aside0.mk (hbox); have GW202 := Aside0.mk (zge (zb1 HB) hg); have GE202 := GW202; have NB201_202 := Aside0.mk (zlt BK201 hg); have NB202_201 := Aside0.mk (zgt BK201 hg); replace BK201 := Aside0.mk (zbb BK201 hb); replace HB := Aside0.mk (below_step (zb1 HB) hb); clear hb hbox hg; have hnb18 := NB201_202.out; have hnc18 := NB202_201.out; have hcz19_0 : w17.cell? ⟨gb201, 0, none⟩ = some (.int .i64 a0_0) := zc BK201 0; have hcz19_1 : w17.cell? ⟨gb201, 1, none⟩ = some (.int .i64 a0_1) := zc BK201 1; have hcz19_2 : w17.cell? ⟨gb201, 2, none⟩ = some (.int .i64 a0_2) := zc BK201 2; have hcz19_3 : w17.cell? ⟨gb201, 3, none⟩ = some (.int .i64 a0_3) := zc BK201 3; have hfz19_0 := blk_frozen BK201.out 0; have hfz19_1 := blk_frozen BK201.out 1; have hfz19_2 := blk_frozen BK201.out 2; have hfz19_3 := blk_frozen BK201.out 3; have hcz20_0 : w17.cell? ⟨gb202, 0, none⟩ = some (.int .i64 0) := zc BK202 0; have hcz20_1 : w17.cell? ⟨gb202, 1, none⟩ = some (.int .i64 0) := zc BK202 1; have hcz20_2 : w17.cell? ⟨gb202, 2, none⟩ = some (.int .i64 0) := zc BK202 2; have hcz20_3 : w17.cell? ⟨gb202, 3, none⟩ = some (.int .i64 0) := zc BK202 3; have hfz20_0 := blk_frozen BK202.out 0; have hfz20_1 := blk_frozen BK202.out 1; have hfz20_2 := blk_frozen BK202.out 2; have hfz20_3 := blk_frozen BK202.out 3))
   refine bodyPost_ret (results_cell_row rfl _ _ gb202 51 #[.int .i64 a0_0, .int .i64 a0_1, .int .i64 a0_2, .int .i64 a2] (0, 0) _ rfl (by (with_reducible repeat (first | refine blk_drewN ?_ _ | refine blk_drew ?_ | refine blk_alloc ?_ _)); refine blk_put (cs := #[.int .i64 a0_0, .int .i64 a0_1, .int .i64 a0_2, .int .i64 0]) ?_ 3 _ rfl; (with_reducible repeat (first | refine blk_drewN ?_ _ | refine blk_drew ?_ | refine blk_alloc ?_ _)); refine blk_put (cs := #[.int .i64 a0_0, .int .i64 a0_1, .int .i64 0, .int .i64 0]) ?_ 2 _ rfl; (with_reducible repeat (first | refine blk_drewN ?_ _ | refine blk_drew ?_ | refine blk_alloc ?_ _)); refine blk_put (cs := #[.int .i64 a0_0, .int .i64 0, .int .i64 0, .int .i64 0]) ?_ 1 _ rfl; (with_reducible repeat (first | refine blk_drewN ?_ _ | refine blk_drew ?_ | refine blk_alloc ?_ _)); refine blk_put (cs := #[.int .i64 0, .int .i64 0, .int .i64 0, .int .i64 0]) ?_ 0 _ rfl; (with_reducible repeat (first | refine blk_drewN ?_ _ | refine blk_drew ?_ | refine blk_alloc ?_ _)); refine blk_far ?_ NB202_201.out _; (with_reducible repeat (first | refine blk_drewN ?_ _ | refine blk_drew ?_ | refine blk_alloc ?_ _)); exact BK202.out) Try.underlying51 rfl (by kernel_rfl)) rfl ?_
   exact ⟨by first | rfl | (simp [errW_none, errW_some] <;> rfl) | (simp [*, errW_none, errW_some] <;> rfl), (zb1 HB)⟩
/-! ### impl_inside: function 57 -/
set_option maxHeartbeats 8000000 in
set_option maxRecDepth 100000 in
theorem impl_inside.calls (a0 : Int) (a1 : Int) (a2 : Int) (r : Bool) (w : World) (h : impl_inside.f a0 a1 a2 = some r) :
  Calls Try.prog 57 #[.int .i64 a0, .int .i64 a1, .int .i64 a2] w fun e w' => e = .returned (.bool r) ∧ Drawn0 w w' := by
 have H : (if a0 ≥ a1 then (some (decide (a0 ≤ a2))) else (some false)) = some r := h
 clear h
 by_cases c4 : a0 ≥ a1
 ·
  rw [if_pos c4] at H
  have c4b0 : decide (a1 ≤ a0) = true := decide_eq_true c4
  clear c4
  obtain rfl := Option.some.inj H
  go_enter Try.func57, Try.ntmps57
  go_wp2
  go_ret
  exact ⟨by first | rfl | (simp; done) | (simp [*]; done), by repeat (first | exact Drawn0.refl _ | apply Drawn0.step)⟩
 ·
  rw [if_neg c4] at H
  have c4b0 : decide (a1 ≤ a0) = false := decide_eq_false c4
  clear c4
  obtain rfl := Option.some.inj H
  go_enter Try.func57, Try.ntmps57
  go_wp2
  go_ret
  exact ⟨by first | rfl | (simp; done) | (simp [*]; done), by repeat (first | exact Drawn0.refl _ | apply Drawn0.step)⟩
theorem eqA51 (d : Nat) (w : World) (x0 y0 : Int) (x1 y1 : Int) (x2 y2 : Int) (x3 y3 : Int) :
    (Op.equalIn (d + 2) 51 (.agg #[.int .i64 x0, .int .i64 x1, .int .i64 x2, .int .i64 x3]) (.agg #[.int .i64 y0, .int .i64 y1, .int .i64 y2, .int .i64 y3])).run Try.prog w = .ok (x0 == y0 && (x1 == y1 && (x2 == y2 && (x3 == y3)))) w := by
  refine eqA_of Try.underlying51 (by kernel_rfl) ?_
  refine eqf_cons (by rfl) (by go_simp; rfl) (by go_simp; rfl) (by go_simp) ?_
  refine eqf_cons (by rfl) (by go_simp; rfl) (by go_simp; rfl) (by go_simp) ?_
  refine eqf_cons (by rfl) (by go_simp; rfl) (by go_simp; rfl) (by go_simp) ?_
  exact eqf_last (by rfl) (by go_simp; rfl) (by go_simp; rfl) (by go_simp)
end Go.Proofs.Ythanmlojikidbaa.PD
