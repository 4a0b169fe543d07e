-- By wip/mk/drv.py
import Derived.Test.YthanmlojikidbaaGreatProg
import Derived.Test.YthanmlojikidbaaGreatQUnknnsCol
import Derived.Below
import Derived.Deep.Draws
import Derived.Deep.AppendLies
import Derived.Maps.AppendAt
import Derived.OwnWalk
import Derived.Laws.BytesArg
import Derived.Laws.MakeOwn
import Derived.Laws.OwnMore
import Derived.Deep.OwnRows
import Derived.Tactics
import Derived.Lib.ConvBytes
import Derived.Laws.Slices
import Derived.WalkKit
import Derived.KernelRfl
import Derived.RowKit3
import Derived.Deep.LoopGhost
import Derived.Deep.QuietTactic
import Derived.BigQuiet
import Derived.WideLaws
import Derived.Deep.DeepCutAuto
import Derived.Deep.CutBlock
import Derived.Deep.RegionHeld3
import Derived.Laws.Rows
import Derived.Lib.AppendStr
import Derived.Lib.SliceRun
import Derived.Lib.AppendZeros
import Derived.ArgAppend
import Derived.Laws.IdiomCopy
import Derived.OrdersHeld
import Derived.Laws.BitsLemmas
import Derived.RowKit
import Derived.Laws.Externs
import Derived.Shelf.Spec.BitsCarry
import Derived.Test.YthanmlojikidbaaGreatQUnknnsW
namespace Go.Proofs.YthanmlojikidbaaGreat.PD
open Go.RowKit Go.Proofs.YthanmlojikidbaaGreatW.PrintWords Go.Proofs.YthanmlojikidbaaGreatW.PrintLast Go.Proofs.YthanmlojikidbaaGreatW.PrintMore
attribute [local go_sem] max2_int min2_int max_two min_two max_three min_three max_four min_four
set_option linter.unusedVariables false
set_option linter.unusedSimpArgs false
def errW : Option Int → Value
  | none => .nilIface
  | some c => .iface 0 (.int .i64 c)
theorem errW_none : errW none = .nilIface := rfl
theorem errW_some (c : Int) : errW (some c) = .iface 0 (.int .i64 c) := rfl
theorem info3 : (Tryz.prog.info? 3).map (fun i => (i.zero, i.size, i.bytes)) = some (some (.int .i64 0), 1, 8) := by kernel_rfl
theorem info24 : (Tryz.prog.info? 24).map (fun i => (i.zero, i.size, i.bytes)) = some (some (.slice none 0 0), 1, 24) := by kernel_rfl
theorem info62 : (Tryz.prog.info? 62).map (fun i => (i.zero, i.size, i.bytes)) = some (some (.agg #[(.int .i64 0), (.int .i64 0), (.int .i64 0), (.int .i64 0)]), 4, 32) := by kernel_rfl
-- the values' own types
/-! #### struct type 62 -/
structure S62 where
  f0 : Int
  f1 : Int
  f2 : Int
  f3 : Int
def z62 : S62 := ⟨(0 : Int), (0 : Int), (0 : Int), (0 : Int)⟩
def k62 : Kd S62 := Kd.iso (Kd.pair (Kd.int .i64) (Kd.pair (Kd.int .i64) (Kd.pair (Kd.int .i64) (Kd.int .i64)))) (fun x : S62 => (x.f0, x.f1, x.f2, x.f3))
theorem k62_open {w : World} {x : S62} {cs : List Value} (h : k62.K w x cs) : cs = [.int .i64 x.f0, .int .i64 x.f1, .int .i64 x.f2, .int .i64 x.f3] := by
  obtain ⟨_, _, rfl, rfl, ⟨_, _, rfl, rfl, ⟨_, _, rfl, rfl, rfl⟩⟩⟩ := h
  exact rfl
theorem k62_openM {w : World} {base : Nat} {ok : Nat → Prop} {x : S62} {cs : List Value} (h : k62.M w base ok x cs) : cs = [.int .i64 x.f0, .int .i64 x.f1, .int .i64 x.f2, .int .i64 x.f3] := by
  obtain ⟨_, _, rfl, rfl, ⟨_, _, rfl, rfl, ⟨_, _, rfl, rfl, rfl⟩⟩⟩ := h
  exact rfl
theorem k62_mkM (w : World) (base : Nat) (ok : Nat → Prop) (x : S62)  : k62.M w base ok x [.int .i64 x.f0, .int .i64 x.f1, .int .i64 x.f2, .int .i64 x.f3] := ⟨[.int .i64 x.f0], [.int .i64 x.f1, .int .i64 x.f2, .int .i64 x.f3], rfl, rfl, ⟨[.int .i64 x.f1], [.int .i64 x.f2, .int .i64 x.f3], rfl, rfl, ⟨[.int .i64 x.f2], [.int .i64 x.f3], rfl, rfl, rfl⟩⟩⟩
def rd_T62 (xs : List S62) (i : Int) : S62 := xs.getD i.toNat z62
theorem at_T62 {w : World} {A : Option Addr} {n : Nat} {xs : List S62} (h : Kd.C k62 w A n xs) (i : Int) (h0 : 0 ≤ i) (h1 : i < n) : ∃ ad , A = some ad ∧ w.cell? (ad.add (i.toNat * 4)) = some (.int .i64 (rd_T62 xs i).f0) ∧ w.cell? ⟨(ad.add (i.toNat * 4)).block, (ad.add (i.toNat * 4)).off + 1, none⟩ = some (.int .i64 (rd_T62 xs i).f1) ∧ w.cell? ⟨(ad.add (i.toNat * 4)).block, (ad.add (i.toNat * 4)).off + 2, none⟩ = some (.int .i64 (rd_T62 xs i).f2) ∧ w.cell? ⟨(ad.add (i.toNat * 4)).block, (ad.add (i.toNat * 4)).off + 3, none⟩ = some (.int .i64 (rd_T62 xs i).f3) := by
  obtain ⟨ad, c, e, _, hK, hc0⟩ := Kd.C_get h z62 i h0 h1
  have hc : ∀ j u, c[j]? = some u → w.cell? (ad.add (i.toNat * 4 + j)) = some u := hc0
  obtain rfl := k62_open hK
  exact ⟨ad, e, hc 0 _ rfl, by rw [← add_field _ _ 1 (by omega)]; exact hc 1 _ rfl, by rw [← add_field _ _ 2 (by omega)]; exact hc 2 _ rfl, by rw [← add_field _ _ 3 (by omega)]; exact hc 3 _ rfl⟩
def rd_L4 (xs : List (List S62)) (i : Int) : (List S62) := xs.getD i.toNat ([] : List S62)
theorem at_L4 {w : World} {A : Option Addr} {n : Nat} {xs : List (List S62)} (h : Kd.C (Kd.slice 62 k62) w A n xs) (i : Int) (h0 : 0 ≤ i) (h1 : i < n) : ∃ ad A0 c0, A = some ad ∧ w.cell? (ad.add i.toNat) = some (.slice A0 (rd_L4 xs i).length c0) ∧ (rd_L4 xs i).length ≤ c0 ∧ k62.C w A0 (rd_L4 xs i).length (rd_L4 xs i) := by
  obtain ⟨ad, c, e, _, hK, hc0⟩ := Kd.C_get h ([] : List S62) i h0 h1
  have hc : ∀ j u, c[j]? = some u → w.cell? (ad.add (i.toNat * 1 + j)) = some u := hc0
  obtain ⟨A0, c0, rfl, l0, g0⟩ := hK
  exact ⟨ad, A0, c0, e, by have hq := hc 0 _ rfl; rwa [Nat.mul_one, Nat.add_zero] at hq, l0, g0⟩
/-- A fact of a block, at a later world. -/
theorem zq1 {P Q : Prop} (h : Aside0 Q) (f : Q → P := by intro h_; (with_reducible repeat (first | refine blk_drewN ?_ _ | refine blk_drew ?_ | refine blk_alloc ?_ _)); exact h_) : P := f h.out
/-- A row's fact, at a later world. -/
theorem zq3 {P Q : Prop} (h : Aside0 Q) (f : Q → P := by intro h_; (with_reducible repeat (first | apply Kd.R_alloc | apply Kd.R_drewN | apply Kd.R_drew)); exact h_) : P := f h.out
/-- A fact of a block, behind stores elsewhere. -/
theorem zq5 {P Q : Prop} (h : Aside0 Q) (f : Q → P := by intro h_; repeat (first | (with_reducible first | exact h_ | refine blk_drewN ?_ _ | refine blk_drew ?_ | refine blk_alloc ?_ _ | refine blk_far ?_ (Aside0.out (by assumption)) _) | exact h_)) : P := f h.out
/-- A new block is none of the elder ones. -/
theorem zlt {w w1 : World} {g gb : Nat} {o : Obj} (h : Aside0 (w.heap[g]? = some o)) (hg : gb = w1.heap.size) (k : w.heap[g]? = some o → w1.heap[g]? = some o := by intro h_; (with_reducible repeat (first | refine blk_drewN ?_ _ | refine blk_drew ?_ | refine blk_alloc ?_ _)); exact h_) : g ≠ gb := by rw [hg]; exact Nat.ne_of_lt (blk_lt (k h.out))
theorem zgt {w w1 : World} {g gb : Nat} {o : Obj} (h : Aside0 (w.heap[g]? = some o)) (hg : gb = w1.heap.size) (k : w.heap[g]? = some o → w1.heap[g]? = some o := by intro h_; (with_reducible repeat (first | refine blk_drewN ?_ _ | refine blk_drew ?_ | refine blk_alloc ?_ _)); exact h_) : gb ≠ g := by rw [hg]; exact Nat.ne_of_gt (blk_lt (k h.out))
/-- A fact of a block, behind a call. -/
theorem zbb {w w1 w2 : World} {g B : Nat} {o : Obj} (h : Aside0 (w.heap[g]? = some o)) (hb : Below B w1 w2) (hB : B = w1.heap.size := by rfl) (k : w.heap[g]? = some o → w1.heap[g]? = some o := by intro h_; (with_reducible repeat (first | refine blk_drewN ?_ _ | refine blk_drew ?_ | refine blk_alloc ?_ _)); exact h_) : w2.heap[g]? = some o := by subst hB; exact blk_below (k h.out) hb
theorem zc {w : World} {g : Nat} {t : TypeId} {cs : Array Value} (h : Aside0 (w.heap[g]? = some (.cells cs t (0, 0)))) (i : Nat) {v : Value} (e : cs[i]? = some v := by rfl) : w.cell? ⟨g, i, none⟩ = some v := (blk_cell h.out i).trans e
theorem zge {w w1 : World} {gb : Nat} (h : Below w.heap.size w w1) (hg : gb = w1.heap.size) : w.heap.size ≤ gb := by rw [hg]; exact h.size
theorem zq6 {α : Type} {a b : α} (h : a = b := by (try simp only [List.map_toArray, List.map_cons, List.map_nil]); first | done | rfl | (simp only [List.length_drop, List.length_take]; rfl)) : a = b := h
/-- An operation that yields in every world, taken first: its own proofs by default. -/
theorem zp {P : Program} {md : Region.Mode} {ops : Array Oper} {Q : Exit → Act → World → Prop} {S : World → Prop} {ds : List Nat} {i : Nat} {N : Option Tmp} {oi : Oper} {v : Value} {fuel : Nat} {l : Array Bool} {a a' : Act} {w : World} (l' : Array Bool) (hc : anyB md ops l l' i = true)
    (h : wpAnyLast P md ops Q S ds fuel l' a' w) (hi : ops[i]? = some oi := by rfl) (hN : oi.dst = N := by rfl) (hg : Region.wanted oi (yielded ops a.tmps) = true := by rfl)
    (hy : ∀ w', (execOp a.eval oi).run P w' = .ok (.value v) w' := by intro w'; go_simp; with_reducible rfl) (ha : a.put N v = a' := by simp only [Act.put, List.setIfInBounds_toArray, List.set_cons_zero, List.set_cons_succ, i64_w, i32_w]; rfl)
    (hQ : ∀ c a w, Q (.panic c) (a.put oi.dst v) w → Q (.panic c) a w := by exact fun _ _ _ h => h) : wpAnyLast P md ops Q S ds (fuel + 1) l a w := pure_ l' hi hN hc hQ (Or.inl ⟨hg, hy⟩) ha h
theorem zu {P : Program} {md : Region.Mode} {ops : Array Oper} {Q : Exit → Act → World → Prop} {S : World → Prop} {ds : List Nat} {i : Nat} {N : Option Tmp} {oi : Oper} {fuel : Nat} {l : Array Bool} {a a' : Act} {w : World} (l' : Array Bool) (hc : anyB md ops l l' i = true)
    (h : wpAnyLast P md ops Q S ds fuel l' a' w) (hi : ops[i]? = some oi := by rfl) (hN : oi.dst = N := by rfl) (hg : Region.wanted oi (yielded ops a.tmps) = false := by rfl)
    (ha : a.put N undef = a' := by simp only [Act.put, List.setIfInBounds_toArray, List.set_cons_zero, List.set_cons_succ, i64_w, i32_w]; rfl)
    (hQ : ∀ c a w, Q (.panic c) (a.put oi.dst undef) w → Q (.panic c) a w := by exact fun _ _ _ h => h) : wpAnyLast P md ops Q S ds (fuel + 1) l a w := pure_ l' hi hN hc hQ (Or.inr ⟨hg, rfl⟩) ha h
theorem zk {P : Program} {md : Region.Mode} {ops : Array Oper} {Q : Exit → Act → World → Prop} {S : World → Prop} {ds : List Nat} {i : Nat} {N : Option Tmp} {oi : Oper} {v : Value} {fuel : Nat} {l : Array Bool} {a a' : Act} {w : World} (l' : Array Bool) (hc : takeB md ops ds l l' i = true) (hS : S w)
    (h : wpAnyLast P md ops Q S ds fuel l' a' w) (hi : ops[i]? = some oi := by rfl) (hN : oi.dst = N := by rfl) (hg : Region.wanted oi (yielded ops a.tmps) = true := by rfl)
    (hy : ∀ w', S w' → (execOp a.eval oi).run P w' = .ok (.value v) w' := by intro w'; simp only [and_imp]; intros; go_simp; with_reducible rfl) (ha : a.put N v = a' := by simp only [Act.put, List.setIfInBounds_toArray, List.set_cons_zero, List.set_cons_succ, i64_w, i32_w]; rfl)
    (hQ : ∀ c a w, Q (.panic c) (a.put oi.dst v) w → Q (.panic c) a w := by exact fun _ _ _ h => h) : wpAnyLast P md ops Q S ds (fuel + 1) l a w := take_ l' hi hN hc hQ (Or.inl ⟨hg, hy⟩) hS ha h
def bl : Nat → Nat → List Bool
  | 0, _ => []
  | n + 1, m => (m % 2 == 1) :: bl n (m / 2)
/-- n marks, as the bits of m. -/
def bn (n m : Nat) : Array Bool := ⟨bl n m⟩
theorem zbe {P : Program} {ops : Array Oper} {rest : List Oper} {o : Oper} {a : Act} {Q : Exit → Act → World → Prop} {W : World} {N : Tmp} {cs : Array Value} {t : TypeId}
    (h : ∀ g, g = W.heap.size → ∀ w1, w1.heap[g]? = some (.cells cs t (0, 0)) → Below W.heap.size W w1 → wpList P ops Q rest (a.put o.dst (.pointer (some ⟨g, 0, none⟩))) w1) (hd : o.dst = some N := by rfl) (hgd : o.guard = none := by rfl)
    (hrun : (execOp a.eval o).run P W = .ok (.value (.pointer (some ⟨W.heap.size, 0, none⟩))) (W.alloc (.cells cs t (0, 0))) := by first | (go_simp; done) | (go_simp; rfl)) : wpList P ops Q (o :: rest) a W := box_event hgd hd hrun h
theorem zb0 {w W0 W1 : World} {B : Nat} (h : Aside0 (Below B w W0)) (f : Below B w W0 → Below B w W1 := by intro h_; repeat (first | (with_reducible first | exact h_ | apply below_alloc | apply pw_below_drewN | apply below_drew1) | exact h_)) : Below B w W1 := f h.out
theorem zb1 {w W0 W1 : World} {B : Nat} (h : Aside0 (Below B w W0)) (f : Below B w W0 → Below B w W1 := by intro h_; repeat (first | (with_reducible first | exact h_ | apply below_alloc | apply pw_below_drewN | apply below_drew1 | refine below_set ?_ (Aside0.out (by assumption))) | exact h_)) : Below B w W1 := f h.out
/-! a made slice's spare cells -/
def room (n : Nat) : Nat := if n % 6 = 5 then 0 else if n % 3 = 0 then 1 else n
/-- A list with the spare cells behind it. -/
def flb {α : Type} (z : α) (b : Bool) (l : List α) : List α := l ++ (if b = true ∧ l = [] then [] else List.replicate (room l.length) z)
/-- What a loop that copies has done. -/
def Cop {α : Type} (l x : List α) (i : Int) : Prop := 0 ≤ i ∧ i ≤ l.length ∧ x.length = l.length + room l.length ∧ x.length ≤ 35184372088832 ∧ x.take i.toNat = l.take i.toNat
def Fil {α : Type} (z : α) (l x : List α) (i : Int) : Prop := (l.length : Int) ≤ i ∧ i ≤ x.length ∧ x.length = l.length + room l.length ∧ x.length ≤ 35184372088832 ∧ x.take i.toNat = l ++ List.replicate (i.toNat - l.length) z
theorem Cop.start {α : Type} {l x : List α} {z : α} {t j : Int} (hx : x = List.replicate j.toNat z) (hj : wrap64 ((l.length : Int) + t) = j) (ht : t = (room l.length : Int)) (hm : j.toNat ≤ 35184372088832) (h0 : 0 ≤ j) (hl : l.length ≤ 9223372036854775807) : Cop l x 0 := by
  subst ht
  have hr : room l.length ≤ l.length + 1 := by unfold room; split <;> (try split) <;> omega
  have : j = (l.length : Int) + (room l.length : Int) := by
    rw [← hj] at h0 hm ⊢
    unfold wrap64 at *
    omega
  refine ⟨by omega, by omega, ?_, ?_, by simp⟩
  · rw [hx, List.length_replicate]; omega
  · rw [hx, List.length_replicate]; omega
theorem Cop.step {α : Type} {l x y : List α} {i : Int} {d : α} (h : Cop l x i) (hi : i < l.length) (hy : y = x.set i.toNat (l.getD i.toNat d)) : Cop l y (wrap64 (i + 1)) := by
  obtain ⟨h0, h1, h2, h3, h4⟩ := h
  have hw : wrap64 (i + 1) = i + 1 := by unfold wrap64; omega
  rw [hw]
  subst hy
  obtain ⟨n, rfl⟩ := Int.eq_ofNat_of_zero_le h0
  have hn : n < l.length := by omega
  have hnx : n < x.length := by omega
  refine ⟨by omega, by omega, by rw [List.length_set]; omega, by rw [List.length_set]; omega, ?_⟩
  rw [show ((n : Int) + 1).toNat = n + 1 by omega, Int.toNat_natCast] at *
  rw [List.take_succ_eq_append_getElem (by rw [List.length_set]; omega), List.take_succ_eq_append_getElem hn, List.take_set_of_le (Nat.le_refl _), h4]
  simp [List.getD_eq_getElem?_getD, List.getElem?_eq_getElem hn]
theorem Fil.step {α : Type} {z : α} {l x y : List α} {i : Int} (h : Fil z l x i) (hi : i < x.length) (hy : y = x.set i.toNat z) : Fil z l y (wrap64 (i + 1)) := by
  obtain ⟨h0, h1, h2, h3, h4⟩ := h
  have hw : wrap64 (i + 1) = i + 1 := by unfold wrap64; omega
  rw [hw]
  subst hy
  obtain ⟨n, rfl⟩ := Int.eq_ofNat_of_zero_le (show 0 ≤ i by omega)
  have hnx : n < x.length := by omega
  refine ⟨by omega, by rw [List.length_set]; omega, by rw [List.length_set]; omega, by rw [List.length_set]; omega, ?_⟩
  rw [show ((n : Int) + 1).toNat = n + 1 by omega, Int.toNat_natCast] at *
  rw [List.take_succ_eq_append_getElem (by rw [List.length_set]; omega), List.take_set_of_le (Nat.le_refl _), h4, List.getElem_set_self, List.append_assoc, ← List.replicate_succ', show n - l.length + 1 = n + 1 - l.length by omega]
theorem Fil.done {α : Type} {z : α} {l x y : List α} {i : Int} {b : Bool} (h : Fil z l x i) (hi : ¬ i < x.length) (hy : y = x.take ((l.length : Int) : Int).toNat) (hb : ¬ (b = true ∧ l = [])) : y = l ∧ flb z b y = x := by
  obtain ⟨h0, h1, h2, h3, h4⟩ := h
  have : i = x.length := by omega
  subst this
  rw [Int.toNat_natCast, List.take_length] at h4
  have e : y = l := by rw [hy, h4, Int.toNat_natCast]; simp
  refine ⟨e, ?_⟩
  subst e
  unfold flb
  rw [if_neg hb, h4, h2]; simp
/-! what the rows of the walks are told by, in short (wip/mk/shrink.py) -/
theorem qa {p : Prop} (h : p) : Aside0 p := ⟨h⟩
theorem qd {p : Prop} [Decidable p] (h : decide p = true := by first | (with_reducible assumption) | assumption) : p := of_decide_eq_true h
theorem qf {p : Prop} (h : p := by first | rfl | (simp; done) | (simp [*]; done)) : p := h
theorem qb {w w1 : World} (h : Aside0 (Below w.heap.size w w1)) {a : Addr} {v : Value} (hc : w.cell? a = some v) : w1.cell? a = some v := pw_cell_below h.out hc
theorem qo {α β : Type} {o : Option α} {f : α → Option β} {r : β} (h : o.bind f = some r) : ∃ a, Aside0 (o = some a) ∧ f a = some r := by
  obtain ⟨a, h1, h2⟩ := Option.bind_eq_some_iff.mp h
  exact ⟨a, ⟨h1⟩, h2⟩
theorem qconv {W : World} {g : Nat} {t : TypeId} {X Y : Array Value} (h : W.heap[g]? = some (.cells X t (0, 0))) (e : X = Y) : W.heap[g]? = some (.cells Y t (0, 0)) := e ▸ h
theorem qfar {w : World} {g : Nat} {o : Obj} (h : w.heap[g]? = some o) {p : Addr} (hp : g ≠ p.block) (u : Value) : (w.setCell p u).heap[g]? = some o := (Below.heap_setCell w p u g hp).trans h
/-- A block's cells, behind writes into it and elsewhere. -/
theorem qs {w W : World} {g : Nat} {t : TypeId} {cs cs' : Array Value} (h : Aside0 (w.heap[g]? = some (.cells cs t (0, 0)))) (f : w.heap[g]? = some (.cells cs t (0, 0)) → W.heap[g]? = some (.cells cs' t (0, 0)) := by intro h_; apply qconv; (repeat (first | (with_reducible exact h_) | (with_reducible first | refine blk_drewN ?_ _ | refine blk_drew ?_ | refine blk_alloc ?_ _ | apply blk_set) | refine qfar ?_ (Aside0.out (by assumption)) _)); rfl) : W.heap[g]? = some (.cells cs' t (0, 0)) := f h.out
theorem qc3 {w : World} {g : Nat} {t : TypeId} {a b c : Value} (h : Aside0 (w.heap[g]? = some (.cells #[a, b, c] t (0, 0)))) : w.cell? ⟨g, 0, none⟩ = some a ∧ w.cell? ⟨g, 1, none⟩ = some b ∧ w.cell? ⟨g, 2, none⟩ = some c := ⟨blk_cell h.out 0, blk_cell h.out 1, blk_cell h.out 2⟩
theorem qc4 {w : World} {g : Nat} {t : TypeId} {a b c d : Value} (h : Aside0 (w.heap[g]? = some (.cells #[a, b, c, d] t (0, 0)))) : w.cell? ⟨g, 0, none⟩ = some a ∧ w.cell? ⟨g, 1, none⟩ = some b ∧ w.cell? ⟨g, 2, none⟩ = some c ∧ w.cell? ⟨g, 3, none⟩ = some d := ⟨blk_cell h.out 0, blk_cell h.out 1, blk_cell h.out 2, blk_cell h.out 3⟩
theorem qz3 {w : World} {g : Nat} {t : TypeId} {cs : Array Value} (h : Aside0 (w.heap[g]? = some (.cells cs t (0, 0)))) : w.frozen? ⟨g, 0, none⟩ = false ∧ w.frozen? ⟨g, 1, none⟩ = false ∧ w.frozen? ⟨g, 2, none⟩ = false := ⟨blk_frozen h.out 0, blk_frozen h.out 1, blk_frozen h.out 2⟩
theorem qz4 {w : World} {g : Nat} {t : TypeId} {cs : Array Value} (h : Aside0 (w.heap[g]? = some (.cells cs t (0, 0)))) : w.frozen? ⟨g, 0, none⟩ = false ∧ w.frozen? ⟨g, 1, none⟩ = false ∧ w.frozen? ⟨g, 2, none⟩ = false ∧ w.frozen? ⟨g, 3, none⟩ = false := ⟨blk_frozen h.out 0, blk_frozen h.out 1, blk_frozen h.out 2, blk_frozen h.out 3⟩
section
variable {P : Program} {md : Region.Mode} {ops : Array Oper} {Q : Exit → Act → World → Prop} {S : World → Prop} {ds : List Nat} {oi : Oper} {v : Value} {fuel : Nat} {l : Array Bool} {a a' : Act} {w : World} {T : Bool × List (List Nat × List Nat)}
theorem qp (i : Nat) (N : Tmp) (n m : Nat) (hT : Aside0 (rtab md ops = T)) (h : wpAnyLast P md ops Q S ds fuel (bn n m) a' w) (hc : anyT T l.toList (bn n m).toList i = true := by kernel_rfl) (hi : ops[i]? = some oi := by rfl) (hN : oi.dst = some N := by rfl) (hg : Region.wanted oi (yielded ops a.tmps) = true := by rfl)
    (hy : ∀ w', (execOp a.eval oi).run P w' = .ok (.value v) w' := by intro w'; go_simp; with_reducible rfl) (ha : a.put (some N) v = a' := by simp only [Act.put, List.setIfInBounds_toArray, List.set_cons_zero, List.set_cons_succ, i64_w, i32_w]; rfl)
    (hQ : ∀ c a w, Q (.panic c) (a.put oi.dst v) w → Q (.panic c) a w := by exact fun _ _ _ h => h) : wpAnyLast P md ops Q S ds (fuel + 1) l a w := zp (bn n m) (any_of hT.out hc) h hi hN hg hy ha hQ
theorem qu (i : Nat) (N : Tmp) (n m : Nat) (hT : Aside0 (rtab md ops = T)) (h : wpAnyLast P md ops Q S ds fuel (bn n m) a' w) (hc : anyT T l.toList (bn n m).toList i = true := by kernel_rfl) (hi : ops[i]? = some oi := by rfl) (hN : oi.dst = some N := by rfl) (hg : Region.wanted oi (yielded ops a.tmps) = false := by rfl)
    (ha : a.put (some N) undef = a' := by simp only [Act.put, List.setIfInBounds_toArray, List.set_cons_zero, List.set_cons_succ, i64_w, i32_w]; rfl)
    (hQ : ∀ c a w, Q (.panic c) (a.put oi.dst undef) w → Q (.panic c) a w := by exact fun _ _ _ h => h) : wpAnyLast P md ops Q S ds (fuel + 1) l a w := zu (bn n m) (any_of hT.out hc) h hi hN hg ha hQ
theorem qk {B : List Nat} (i : Nat) (N : Tmp) (n m : Nat) (hT : Aside0 (rtab md ops = T)) (hW : Aside0 (waitsOk T.2 B = true)) (hS : S w) (h : wpAnyLast P md ops Q S ds fuel (bn n m) a' w) (hc : takeW T B ds l.toList (bn n m).toList i = true := by kernel_rfl) (hi : ops[i]? = some oi := by rfl) (hN : oi.dst = some N := by rfl) (hg : Region.wanted oi (yielded ops a.tmps) = true := by rfl)
    (hy : ∀ w', S w' → (execOp a.eval oi).run P w' = .ok (.value v) w' := by intro w'; simp only [and_imp]; intros; go_simp; with_reducible rfl) (ha : a.put (some N) v = a' := by simp only [Act.put, List.setIfInBounds_toArray, List.set_cons_zero, List.set_cons_succ, i64_w, i32_w]; rfl)
    (hQ : ∀ c a w, Q (.panic c) (a.put oi.dst v) w → Q (.panic c) a w := by exact fun _ _ _ h => h) : wpAnyLast P md ops Q S ds (fuel + 1) l a w := zk (bn n m) (take_ofW hT.out hW.out hc) hS h hi hN hg hy ha hQ
theorem qt {N : Tmp} {u : Value} (h : wpAnyLast P md ops Q S ds fuel l a' w) (ha : a.put (some N) u = a' := by simp only [Act.put, List.setIfInBounds_toArray, List.set_cons_zero, List.set_cons_succ, i64_w, i32_w]; rfl) : wpAnyLast P md ops Q S ds fuel l (a.put (some N) u) w := norm_ ha h
theorem qg {rest : List Oper} {f : FuncId} {fn : Func} {xs : Array Operand} {ts : Array TypeId} (N : Tmp) (hf : P.funcs[f]? = some fn) (args : Array Value)
    (h : Calls P f args w fun e w' => ∃ v, e = .returned v ∧ wpList P ops Q rest (a.put (some N) v) w') (hname : (fn.name == "runtime.NumGoroutine") = false := by kernel_rfl) (hop : oi.op = .call { callee := .value (.func f), args := xs, argTypes := ts } := by rfl) (hargs : xs.map a.eval = args := by (try simp only [List.map_toArray, List.map_cons, List.map_nil]); first | done | rfl | (simp only [List.length_drop, List.length_take]; rfl)) (hd : oi.dst = some N := by rfl) (hg : oi.guard = none := by rfl) (hb : fn.body.isSome = true := by rfl) : wpList P ops Q (oi :: rest) a w := goesL_ (some N) hd hg hf hname hb args hop hargs h
end
/-! laws_big -/
def laws_big.f (l0 : List Int) (l1 : List Int) : Option (Bool) := if (l0.length : Int) > 1048576 then (some true) else (some (decide ((l1.length : Int) > (wrap64 (1048576 - (l0.length : Int))))))
/-! spec_l1Cur_next -/
def spec_l1Cur_next.f (s0_0 : List Int) (s0_1 : Int) (s0_2 : Int) : Option (Int × Int × Int) := if s0_1 < (s0_0.length : Int) then (if 0 ≤ s0_1 then (if (wrap64 (s0_1 + 1)) ≤ (s0_0.length : Int) then (some (wrap64 (rd s0_0 s0_1), wrap64 (s0_1 + 1), IntKind.u64.wrap ((IntKind.u64.wrap ((IntKind.u64.wrap (s0_2 * 6364136223846793005)) + (IntKind.u64.wrap (wrap64 (rd s0_0 s0_1))))) + 1442695040888963407))) else (some (wrap64 (Go.bits .and .u64 ((IntKind.u64.wrap ((IntKind.u64.wrap ((IntKind.u64.wrap (s0_2 * 6364136223846793005)) + (IntKind.u64.wrap (wrap64 (rd s0_0 s0_1))))) + 1442695040888963407)) / 1099511627776) 255), wrap64 (s0_1 + 1), IntKind.u64.wrap ((IntKind.u64.wrap ((IntKind.u64.wrap (s0_2 * 6364136223846793005)) + (IntKind.u64.wrap (wrap64 (rd s0_0 s0_1))))) + 1442695040888963407)))) else (none)) else (if (wrap64 (s0_1 + 1)) ≤ (s0_0.length : Int) then (some (0, wrap64 (s0_1 + 1), IntKind.u64.wrap ((IntKind.u64.wrap (IntKind.u64.wrap (s0_2 * 6364136223846793005))) + 1442695040888963407))) else (some (wrap64 (Go.bits .and .u64 ((IntKind.u64.wrap ((IntKind.u64.wrap (IntKind.u64.wrap (s0_2 * 6364136223846793005))) + 1442695040888963407)) / 1099511627776) 255), wrap64 (s0_1 + 1), IntKind.u64.wrap ((IntKind.u64.wrap (IntKind.u64.wrap (s0_2 * 6364136223846793005))) + 1442695040888963407))))
/-! spec_l1Cur_pick -/
def spec_l1Cur_pick.f (s0_0 : List Int) (s0_1 : Int) (s0_2 : Int) (a1 : Int) : Option (Int × Int × Int) := if a1 ≤ 1 then (some (0, s0_1, s0_2)) else ((spec_l1Cur_next.f s0_0 s0_1 s0_2).bind fun bt102 => (if a1 > 200 then ((spec_l1Cur_next.f s0_0 bt102.2.1 bt102.2.2).bind fun bt105 => (if a1 = 0 then (none) else (some (Int.tmod (wrap64 ((wrap64 (bt102.1 * 256)) + bt105.1)) a1, bt105.2.1, bt105.2.2)))) else (if a1 = 0 then (none) else (some (Int.tmod bt102.1 a1, bt102.2.1, bt102.2.2)))))
/-! spec_l1Cur_among -/
def spec_l1Cur_among.f (s0_0 : List Int) (s0_1 : Int) (s0_2 : Int) (l1 : List Int) : Option (Int × Int × Int) := (spec_l1Cur_pick.f s0_0 s0_1 s0_2 (l1.length : Int)).bind fun bt108 => (if 0 ≤ bt108.1 then (if bt108.1 < (l1.length : Int) then (some (rd l1 bt108.1, bt108.2.1, bt108.2.2)) else (none)) else (none))
/-! spec_l1Cur_one -/
def spec_l1Cur_one.f (s0_0 : List Int) (s0_1 : Int) (s0_2 : Int) (a1 : Int) : Option (Bool × Int × Int) := (spec_l1Cur_pick.f s0_0 s0_1 s0_2 a1).bind fun bt112 => (some ((bt112.1 == 0), bt112.2.1, bt112.2.2))
/-! spec_l1In -/
def spec_l1In.f (a0 : Int) (a1 : Int) (a2 : Int) : Option (Bool) := if a0 ≥ a1 then (some (decide (a0 ≤ a2))) else (some false)
/-! spec_poTerm -/
def spec_poTerm.f (a0_0 : Int) (a0_1 : Int) (a0_2 : Int) (a0_3 : Int) : Option (Bool) := (spec_l1In.f a0_0 (-1000) 1000).bind fun t116 => (if t116 = true then ((spec_l1In.f a0_1 0 4).bind fun t117 => (if t117 = true then ((spec_l1In.f a0_2 0 4).bind fun t118 => (if t118 = true then ((spec_l1In.f a0_3 0 4).bind fun t119 => (if t119 = true then (some (decide ((wrap64 ((wrap64 (a0_1 + a0_2)) + a0_3)) ≤ 4))) else (some false))) else (some false))) else (some false))) else (some false))
/-! spec_l1Sign -/
def spec_l1Sign.f (a0 : Int) : Option (Int) := if a0 > 0 then (some 1) else (if a0 < 0 then (some (-1)) else (some 0))
/-! spec_poOrder -/
def spec_poOrder.f (a0_0 : Int) (a0_1 : Int) (a0_2 : Int) (a0_3 : Int) (a1_0 : Int) (a1_1 : Int) (a1_2 : Int) (a1_3 : Int) : Option (Int) := if a0_1 = a1_1 then (if a0_2 = a1_2 then ((spec_l1Sign.f (wrap64 (a0_3 - a1_3))).bind fun t122 => (some t122)) else ((spec_l1Sign.f (wrap64 (a0_2 - a1_2))).bind fun t123 => (some t123))) else ((spec_l1Sign.f (wrap64 (a0_1 - a1_1))).bind fun t124 => (some t124))
/-! spec_poGood -/
def spec_poGood.l0 : Nat → List (S62) → List (S62) → Int → Int → Option (Bool)
  | 0, _, _, _, _ => none
  | k + 1, x0, x5, x6, x7 => if x7 < x6 then (if 0 ≤ x7 then (if x7 < (x5.length : Int) then ((spec_poTerm.f ((rd_T62 x5 x7).f0) ((rd_T62 x5 x7).f1) ((rd_T62 x5 x7).f2) ((rd_T62 x5 x7).f3)).bind fun t127 => (if t127 = true then (if ((rd_T62 x5 x7).f0) = 0 then (some false) else (if x7 > 0 then (if 0 ≤ (wrap64 (x7 - 1)) then (if (wrap64 (x7 - 1)) < (x0.length : Int) then ((spec_poOrder.f ((rd_T62 x0 (wrap64 (x7 - 1))).f0) ((rd_T62 x0 (wrap64 (x7 - 1))).f1) ((rd_T62 x0 (wrap64 (x7 - 1))).f2) ((rd_T62 x0 (wrap64 (x7 - 1))).f3) ((rd_T62 x5 x7).f0) ((rd_T62 x5 x7).f1) ((rd_T62 x5 x7).f2) ((rd_T62 x5 x7).f3)).bind fun t129 => (if t129 ≥ 0 then (some false) else (spec_poGood.l0 k x0 x5 x6 (wrap64 (x7 + 1))))) else (none)) else (none)) else (spec_poGood.l0 k x0 x5 x6 (wrap64 (x7 + 1))))) else (some false))) else (none)) else (none)) else (some (decide ((x0.length : Int) ≤ 20)))
def spec_poGood.f (k : Nat) (l0 : List (S62)) : Option (Bool) := spec_poGood.l0 k l0 l0 (l0.length : Int) 0
theorem spec_poGood.mono_l : ∀ k, (∀ y0 y1 y2 y3, LeO (spec_poGood.l0 k y0 y1 y2 y3) (spec_poGood.l0 (k + 1) y0 y1 y2 y3))
  | 0 => fun _ _ _ _ r h => by simp [spec_poGood.l0] at h
  | k + 1 => by
    have ih0 := spec_poGood.mono_l k
    · intro y0 y1 y2 y3
      unfold spec_poGood.l0
      repeat' first
      | (with_reducible exact ih0 _ _ _ _)
      | (with_reducible exact LeO.refl _)
      | (with_reducible exact LeO.none _)
      | (with_reducible refine LeO.ite ?_ ?_)
      | (with_reducible refine LeO.bind ?_ (fun _ => ?_))
      | exact ih0 _ _ _ _
      | exact LeO.none _
      | refine LeO.ite ?_ ?_
      | refine LeO.bind ?_ (fun _ => ?_)
theorem spec_poGood.mono : ∀ a0 k, LeO (spec_poGood.f k a0) (spec_poGood.f (k + 1) a0) := by
  intro a0 k
  have ih0 := spec_poGood.mono_l k
  unfold spec_poGood.f
  repeat' first
      | (with_reducible exact ih0 _ _ _ _)
      | (with_reducible exact LeO.refl _)
      | (with_reducible exact LeO.none _)
      | (with_reducible refine LeO.ite ?_ ?_)
      | (with_reducible refine LeO.bind ?_ (fun _ => ?_))
      | exact ih0 _ _ _ _
      | exact LeO.none _
      | refine LeO.ite ?_ ?_
      | refine LeO.bind ?_ (fun _ => ?_)
/-! spec_poPut -/
mutual
def spec_poPut.j1 : Nat → List (S62) → Int → Int → Int → Int → Int → Option ((List (S62)))
  | 0, _, _, _, _, _, _ => none
  | k + 1, x0, x5, x131000, x131001, x131002, x131003 => if 0 ≤ x5 then (if x5 ≤ (x0.length : Int) then ((some (x0.drop (x5 : Int).toNat : List (S62))).bind fun y133 => (if x5 < (x0.length : Int) then ((spec_poOrder.f ((rd_T62 x0 x5).f0) ((rd_T62 x0 x5).f1) ((rd_T62 x0 x5).f2) ((rd_T62 x0 x5).f3) x131000 x131001 x131002 x131003).bind fun t138 => (spec_poPut.j2 k x0 x5 y133 (t138 == 0) x131000 x131001 x131002 x131003)) else (spec_poPut.j2 k x0 x5 y133 false x131000 x131001 x131002 x131003))) else (none)) else (none)
def spec_poPut.j2 : Nat → List (S62) → Int → List (S62) → Bool → Int → Int → Int → Int → Option ((List (S62)))
  | 0, _, _, _, _, _, _, _, _ => none
  | k + 1, x0, x5, x6, x38, x131000, x131001, x131002, x131003 => if x38 = true then (if 0 ≤ x5 then (if x5 < (x0.length : Int) then (if 0 ≤ (wrap64 (x5 + 1)) then (if (wrap64 (x5 + 1)) ≤ (x0.length : Int) then ((some (x0.drop ((wrap64 (x5 + 1)) : Int).toNat : List (S62))).bind fun y140 => ((some (([] : List (S62)) : List (S62))).bind fun y144 => (if x5 ≤ (x0.length : Int) then ((some (x0.take (x5 : Int).toNat : List (S62))).bind fun y147 => (if y144.length + y147.length < 4398046511104 then ((some (y144 ++ y147 : List (S62))).bind fun y151 => (if (wrap64 (x131000 + ((rd_T62 x0 x5).f0))) = 0 then (if y151.length + y140.length < 4398046511104 then (some (y151 ++ y140)) else (none)) else (if y151.length < 4398046511104 then ((some (y151 ++ [(⟨wrap64 (x131000 + ((rd_T62 x0 x5).f0)), x131001, x131002, x131003⟩ : S62)] : List (S62))).bind fun y157 => (if y157.length + y140.length < 4398046511104 then (some (y157 ++ y140)) else (none))) else (none)))) else (none))) else (none)))) else (none)) else (none)) else (none)) else (none)) else ((some (([] : List (S62)) : List (S62))).bind fun y163 => (if 0 ≤ x5 then (if x5 ≤ (x0.length : Int) then ((some (x0.take (x5 : Int).toNat : List (S62))).bind fun y166 => (if y163.length + y166.length < 4398046511104 then ((some (y163 ++ y166 : List (S62))).bind fun y170 => (if x131000 = 0 then (if y170.length + x6.length < 4398046511104 then (some (y170 ++ x6)) else (none)) else (if y170.length < 4398046511104 then ((some (y170 ++ [(⟨x131000, x131001, x131002, x131003⟩ : S62)] : List (S62))).bind fun y176 => (if y176.length + x6.length < 4398046511104 then (some (y176 ++ x6)) else (none))) else (none)))) else (none))) else (none)) else (none)))
def spec_poPut.l0 : Nat → List (S62) → Int → Int → Int → Int → Int → Option ((List (S62)))
  | 0, _, _, _, _, _, _ => none
  | k + 1, x0, x5, x131000, x131001, x131002, x131003 => if x5 < (x0.length : Int) then (if 0 ≤ x5 then ((spec_poOrder.f ((rd_T62 x0 x5).f0) ((rd_T62 x0 x5).f1) ((rd_T62 x0 x5).f2) ((rd_T62 x0 x5).f3) x131000 x131001 x131002 x131003).bind fun t132 => (if t132 < 0 then (spec_poPut.l0 k x0 (wrap64 (x5 + 1)) x131000 x131001 x131002 x131003) else (spec_poPut.j1 k x0 x5 x131000 x131001 x131002 x131003))) else (none)) else (spec_poPut.j1 k x0 x5 x131000 x131001 x131002 x131003)
end
def spec_poPut.f (k : Nat) (l0 : List (S62)) (a1_0 : Int) (a1_1 : Int) (a1_2 : Int) (a1_3 : Int) : Option ((List (S62))) := spec_poPut.l0 k l0 0 a1_0 a1_1 a1_2 a1_3
theorem spec_poPut.mono_l : ∀ k, (∀ y0 y1 y2 y3 y4 y5, LeO (spec_poPut.j1 k y0 y1 y2 y3 y4 y5) (spec_poPut.j1 (k + 1) y0 y1 y2 y3 y4 y5)) ∧ (∀ y0 y1 y2 y3 y4 y5 y6 y7, LeO (spec_poPut.j2 k y0 y1 y2 y3 y4 y5 y6 y7) (spec_poPut.j2 (k + 1) y0 y1 y2 y3 y4 y5 y6 y7)) ∧ (∀ y0 y1 y2 y3 y4 y5, LeO (spec_poPut.l0 k y0 y1 y2 y3 y4 y5) (spec_poPut.l0 (k + 1) y0 y1 y2 y3 y4 y5))
  | 0 => ⟨fun _ _ _ _ _ _ r h => by simp [spec_poPut.j1] at h, fun _ _ _ _ _ _ _ _ r h => by simp [spec_poPut.j2] at h, fun _ _ _ _ _ _ r h => by simp [spec_poPut.l0] at h⟩
  | k + 1 => by
    obtain ⟨ih0, ih1, ih2⟩ := spec_poPut.mono_l k
    refine ⟨?_, ?_, ?_⟩
    · intro y0 y1 y2 y3 y4 y5
      unfold spec_poPut.j1
      repeat' first
      | (with_reducible exact ih0 _ _ _ _ _ _)
      | (with_reducible exact ih1 _ _ _ _ _ _ _ _)
      | (with_reducible exact ih2 _ _ _ _ _ _)
      | (with_reducible exact LeO.refl _)
      | (with_reducible exact LeO.none _)
      | (with_reducible refine LeO.ite ?_ ?_)
      | (with_reducible refine LeO.bind ?_ (fun _ => ?_))
      | exact ih0 _ _ _ _ _ _
      | exact ih1 _ _ _ _ _ _ _ _
      | exact ih2 _ _ _ _ _ _
      | exact LeO.none _
      | refine LeO.ite ?_ ?_
      | refine LeO.bind ?_ (fun _ => ?_)
    · intro y0 y1 y2 y3 y4 y5 y6 y7
      unfold spec_poPut.j2
      repeat' first
      | (with_reducible exact ih0 _ _ _ _ _ _)
      | (with_reducible exact ih1 _ _ _ _ _ _ _ _)
      | (with_reducible exact ih2 _ _ _ _ _ _)
      | (with_reducible exact LeO.refl _)
      | (with_reducible exact LeO.none _)
      | (with_reducible refine LeO.ite ?_ ?_)
      | (with_reducible refine LeO.bind ?_ (fun _ => ?_))
      | exact ih0 _ _ _ _ _ _
      | exact ih1 _ _ _ _ _ _ _ _
      | exact ih2 _ _ _ _ _ _
      | exact LeO.none _
      | refine LeO.ite ?_ ?_
      | refine LeO.bind ?_ (fun _ => ?_)
    · intro y0 y1 y2 y3 y4 y5
      unfold spec_poPut.l0
      repeat' first
      | (with_reducible exact ih0 _ _ _ _ _ _)
      | (with_reducible exact ih1 _ _ _ _ _ _ _ _)
      | (with_reducible exact ih2 _ _ _ _ _ _)
      | (with_reducible exact LeO.refl _)
      | (with_reducible exact LeO.none _)
      | (with_reducible refine LeO.ite ?_ ?_)
      | (with_reducible refine LeO.bind ?_ (fun _ => ?_))
      | exact ih0 _ _ _ _ _ _
      | exact ih1 _ _ _ _ _ _ _ _
      | exact ih2 _ _ _ _ _ _
      | exact LeO.none _
      | refine LeO.ite ?_ ?_
      | refine LeO.bind ?_ (fun _ => ?_)
theorem spec_poPut.mono : ∀ a0 a1 a2 a3 a4 k, LeO (spec_poPut.f k a0 a1 a2 a3 a4) (spec_poPut.f (k + 1) a0 a1 a2 a3 a4) := by
  intro a0 a1 a2 a3 a4 k
  obtain ⟨ih0, ih1, ih2⟩ := spec_poPut.mono_l k
  unfold spec_poPut.f
  repeat' first
      | (with_reducible exact ih0 _ _ _ _ _ _)
      | (with_reducible exact ih1 _ _ _ _ _ _ _ _)
      | (with_reducible exact ih2 _ _ _ _ _ _)
      | (with_reducible exact LeO.refl _)
      | (with_reducible exact LeO.none _)
      | (with_reducible refine LeO.ite ?_ ?_)
      | (with_reducible refine LeO.bind ?_ (fun _ => ?_))
      | exact ih0 _ _ _ _ _ _
      | exact ih1 _ _ _ _ _ _ _ _
      | exact ih2 _ _ _ _ _ _
      | exact LeO.none _
      | refine LeO.ite ?_ ?_
      | refine LeO.bind ?_ (fun _ => ?_)
/-! spec_poSum -/
def spec_poSum.l0 : Nat → List (S62) → List (S62) → Int → Int → Option ((List (S62)) × Bool)
  | 0, _, _, _, _ => none
  | k + 1, x4, x7, x8, x9 => if x9 < x8 then (if 0 ≤ x9 then (if x9 < (x7.length : Int) then ((spec_poPut.f k x4 ((rd_T62 x7 x9).f0) ((rd_T62 x7 x9).f1) ((rd_T62 x7 x9).f2) ((rd_T62 x7 x9).f3)).bind fun t184 => (spec_poSum.l0 k t184 x7 x8 (wrap64 (x9 + 1)))) else (none)) else (none)) else ((spec_poGood.f k x4).bind fun t187 => (if t187 = true then (some (x4, true)) else (some (([] : List (S62)), false))))
def spec_poSum.f (k : Nat) (l0 : List (S62)) : Option ((List (S62)) × Bool) := spec_poSum.l0 k ([] : List (S62)) l0 (l0.length : Int) 0
theorem spec_poSum.mono_l : ∀ k, (∀ y0 y1 y2 y3, LeO (spec_poSum.l0 k y0 y1 y2 y3) (spec_poSum.l0 (k + 1) y0 y1 y2 y3))
  | 0 => fun _ _ _ _ r h => by simp [spec_poSum.l0] at h
  | k + 1 => by
    have ih0 := spec_poSum.mono_l k
    · intro y0 y1 y2 y3
      unfold spec_poSum.l0
      repeat' first
      | (with_reducible exact ih0 _ _ _ _)
      | (with_reducible exact spec_poGood.mono _ _)
      | (with_reducible exact spec_poPut.mono _ _ _ _ _ _)
      | (with_reducible exact LeO.refl _)
      | (with_reducible exact LeO.none _)
      | (with_reducible refine LeO.ite ?_ ?_)
      | (with_reducible refine LeO.bind ?_ (fun _ => ?_))
      | exact ih0 _ _ _ _
      | exact spec_poGood.mono _ _
      | exact spec_poPut.mono _ _ _ _ _ _
      | exact LeO.none _
      | refine LeO.ite ?_ ?_
      | refine LeO.bind ?_ (fun _ => ?_)
theorem spec_poSum.mono : ∀ a0 k, LeO (spec_poSum.f k a0) (spec_poSum.f (k + 1) a0) := by
  intro a0 k
  have ih0 := spec_poSum.mono_l k
  unfold spec_poSum.f
  repeat' first
      | (with_reducible exact ih0 _ _ _ _)
      | (with_reducible exact spec_poGood.mono _ _)
      | (with_reducible exact spec_poPut.mono _ _ _ _ _ _)
      | (with_reducible exact LeO.refl _)
      | (with_reducible exact LeO.none _)
      | (with_reducible refine LeO.ite ?_ ?_)
      | (with_reducible refine LeO.bind ?_ (fun _ => ?_))
      | exact ih0 _ _ _ _
      | exact spec_poGood.mono _ _
      | exact spec_poPut.mono _ _ _ _ _ _
      | exact LeO.none _
      | refine LeO.ite ?_ ?_
      | refine LeO.bind ?_ (fun _ => ?_)
/-! spec_poAdd -/
def spec_poAdd.f (k : Nat) (l0 : List (S62)) (l1 : List (S62)) : Option ((List (S62)) × Bool) := (some (([] : List (S62)) : List (S62))).bind fun y188 => (if y188.length + l0.length < 4398046511104 then ((some (y188 ++ l0 : List (S62))).bind fun y191 => (if y191.length + l1.length < 4398046511104 then ((spec_poSum.f k (y191 ++ l1)).bind fun bt197 => (some (bt197.1, bt197.2))) else (none))) else (none))
theorem spec_poAdd.mono : ∀ a0 a1 k, LeO (spec_poAdd.f k a0 a1) (spec_poAdd.f (k + 1) a0 a1) := by
  intro a0 a1 k
  unfold spec_poAdd.f
  repeat' first
      | (with_reducible exact spec_poSum.mono _ _)
      | (with_reducible exact LeO.refl _)
      | (with_reducible exact LeO.none _)
      | (with_reducible refine LeO.ite ?_ ?_)
      | (with_reducible refine LeO.bind ?_ (fun _ => ?_))
      | exact spec_poSum.mono _ _
      | exact LeO.none _
      | refine LeO.ite ?_ ?_
      | refine LeO.bind ?_ (fun _ => ?_)
/-! spec_poWith -/
def spec_poWith.f (a0_0 : Int) (a0_1 : Int) (a0_2 : Int) (a0_3 : Int) (a1 : Int) (a2 : Int) : Option (Int × Int × Int × Int) := if a1 = 0 then (some (a0_0, a2, a0_2, a0_3)) else (if a1 = 1 then (some (a0_0, a0_1, a2, a0_3)) else (some (a0_0, a0_1, a0_2, a2)))
/-! spec_l1Cur_term -/
def spec_l1Cur_term.l0 : Nat → Int → Int → Int → List Int → Int → Int → Int → Int → Int → Int → Option (Int × Int × Int × Int × Int × Int)
  | 0, _, _, _, _, _, _, _, _, _, _ => none
  | k + 1, x1, x6, x7, x1000, x1001, x1002, x214000, x214001, x214002, x214003 => if x7 < x1 then ((spec_l1Cur_pick.f x1000 x1001 x1002 (wrap64 (x6 + 1))).bind fun bt214 => ((spec_l1Cur_among.f x1000 bt214.2.1 bt214.2.2 (([0, 0, 1, 1, 2, bt214.1] : List Int))).bind fun bt220 => (if bt220.1 > x6 then ((spec_poWith.f x214000 x214001 x214002 x214003 x7 x6).bind fun bt223 => (spec_l1Cur_term.l0 k x1 0 (wrap64 (x7 + 1)) x1000 bt220.2.1 bt220.2.2 bt223.1 bt223.2.1 bt223.2.2.1 bt223.2.2.2)) else ((spec_poWith.f x214000 x214001 x214002 x214003 x7 bt220.1).bind fun bt227 => (spec_l1Cur_term.l0 k x1 (wrap64 (x6 - bt220.1)) (wrap64 (x7 + 1)) x1000 bt220.2.1 bt220.2.2 bt227.1 bt227.2.1 bt227.2.2.1 bt227.2.2.2))))) else ((spec_l1Cur_one.f x1000 x1001 x1002 24).bind fun bt231 => (if bt231.1 = true then ((spec_l1Cur_among.f x1000 bt231.2.1 bt231.2.2 (([1000, (-1000)] : List Int))).bind fun bt237 => (some (bt237.1, x214001, x214002, x214003, bt237.2.1, bt237.2.2))) else (some (x214000, x214001, x214002, x214003, bt231.2.1, bt231.2.2))))
def spec_l1Cur_term.f (k : Nat) (s0_0 : List Int) (s0_1 : Int) (s0_2 : Int) (a1 : Int) : Option (Int × Int × Int × Int × Int × Int) := (spec_l1Cur_pick.f s0_0 s0_1 s0_2 41).bind fun bt204 => ((spec_l1Cur_among.f s0_0 bt204.2.1 bt204.2.2 (([1, (-1), 2, (-3), 4, wrap64 (bt204.1 - 20)] : List Int))).bind fun bt210 => (spec_l1Cur_term.l0 k a1 4 0 s0_0 bt210.2.1 bt210.2.2 bt210.1 0 0 0))
theorem spec_l1Cur_term.mono_l : ∀ k, (∀ y0 y1 y2 y3 y4 y5 y6 y7 y8 y9, LeO (spec_l1Cur_term.l0 k y0 y1 y2 y3 y4 y5 y6 y7 y8 y9) (spec_l1Cur_term.l0 (k + 1) y0 y1 y2 y3 y4 y5 y6 y7 y8 y9))
  | 0 => fun _ _ _ _ _ _ _ _ _ _ r h => by simp [spec_l1Cur_term.l0] at h
  | k + 1 => by
    have ih0 := spec_l1Cur_term.mono_l k
    · intro y0 y1 y2 y3 y4 y5 y6 y7 y8 y9
      unfold spec_l1Cur_term.l0
      repeat' first
      | (with_reducible exact ih0 _ _ _ _ _ _ _ _ _ _)
      | (with_reducible exact LeO.refl _)
      | (with_reducible exact LeO.none _)
      | (with_reducible refine LeO.ite ?_ ?_)
      | (with_reducible refine LeO.bind ?_ (fun _ => ?_))
      | exact ih0 _ _ _ _ _ _ _ _ _ _
      | exact LeO.none _
      | refine LeO.ite ?_ ?_
      | refine LeO.bind ?_ (fun _ => ?_)
theorem spec_l1Cur_term.mono : ∀ a0 a1 a2 a3 k, LeO (spec_l1Cur_term.f k a0 a1 a2 a3) (spec_l1Cur_term.f (k + 1) a0 a1 a2 a3) := by
  intro a0 a1 a2 a3 k
  have ih0 := spec_l1Cur_term.mono_l k
  unfold spec_l1Cur_term.f
  repeat' first
      | (with_reducible exact ih0 _ _ _ _ _ _ _ _ _ _)
      | (with_reducible exact LeO.refl _)
      | (with_reducible exact LeO.none _)
      | (with_reducible refine LeO.ite ?_ ?_)
      | (with_reducible refine LeO.bind ?_ (fun _ => ?_))
      | exact ih0 _ _ _ _ _ _ _ _ _ _
      | exact LeO.none _
      | refine LeO.ite ?_ ?_
      | refine LeO.bind ?_ (fun _ => ?_)
/-! spec_l1Cur_poly -/
mutual
def spec_l1Cur_poly.j0 : Nat → Int → List (S62) → Int → List Int → Int → Int → Option ((List (S62)) × Int × Int)
  | 0, _, _, _, _, _, _ => none
  | k + 1, x1, x5, x6, x1000, x1001, x1002 => spec_l1Cur_poly.l0 k x1 x5 x6 0 x1000 x1001 x1002
def spec_l1Cur_poly.l0 : Nat → Int → List (S62) → Int → Int → List Int → Int → Int → Option ((List (S62)) × Int × Int)
  | 0, _, _, _, _, _, _, _ => none
  | k + 1, x1, x5, x6, x7, x1000, x1001, x1002 => if x7 < x6 then ((spec_l1Cur_term.f k x1000 x1001 x1002 x1).bind fun bt249 => ((spec_poAdd.f k x5 (([(⟨bt249.1, bt249.2.1, bt249.2.2.1, bt249.2.2.2.1⟩ : S62)] : List (S62)))).bind fun bt258 => (if bt258.2 = true then (spec_l1Cur_poly.l0 k x1 bt258.1 x6 (wrap64 (x7 + 1)) x1000 bt249.2.2.2.2.1 bt249.2.2.2.2.2) else (spec_l1Cur_poly.l0 k x1 x5 x6 (wrap64 (x7 + 1)) x1000 bt249.2.2.2.2.1 bt249.2.2.2.2.2)))) else ((spec_l1Cur_one.f x1000 x1001 x1002 24).bind fun bt246 => (if bt246.1 = true then (some (([] : List (S62)), bt246.2.1, bt246.2.2)) else (some (x5, bt246.2.1, bt246.2.2))))
end
def spec_l1Cur_poly.f (k : Nat) (s0_0 : List Int) (s0_1 : Int) (s0_2 : Int) (a1 : Int) : Option ((List (S62)) × Int × Int) := (spec_l1Cur_pick.f s0_0 s0_1 s0_2 4).bind fun bt240 => ((spec_l1Cur_one.f s0_0 bt240.2.1 bt240.2.2 20).bind fun bt243 => (if bt243.1 = true then (spec_l1Cur_poly.j0 k a1 ([] : List (S62)) 24 s0_0 bt243.2.1 bt243.2.2) else (spec_l1Cur_poly.j0 k a1 ([] : List (S62)) (wrap64 (1 + bt240.1)) s0_0 bt243.2.1 bt243.2.2)))
theorem spec_l1Cur_poly.mono_l : ∀ k, (∀ y0 y1 y2 y3 y4 y5, LeO (spec_l1Cur_poly.j0 k y0 y1 y2 y3 y4 y5) (spec_l1Cur_poly.j0 (k + 1) y0 y1 y2 y3 y4 y5)) ∧ (∀ y0 y1 y2 y3 y4 y5 y6, LeO (spec_l1Cur_poly.l0 k y0 y1 y2 y3 y4 y5 y6) (spec_l1Cur_poly.l0 (k + 1) y0 y1 y2 y3 y4 y5 y6))
  | 0 => ⟨fun _ _ _ _ _ _ r h => by simp [spec_l1Cur_poly.j0] at h, fun _ _ _ _ _ _ _ r h => by simp [spec_l1Cur_poly.l0] at h⟩
  | k + 1 => by
    obtain ⟨ih0, ih1⟩ := spec_l1Cur_poly.mono_l k
    refine ⟨?_, ?_⟩
    · intro y0 y1 y2 y3 y4 y5
      unfold spec_l1Cur_poly.j0
      repeat' first
      | (with_reducible exact ih0 _ _ _ _ _ _)
      | (with_reducible exact ih1 _ _ _ _ _ _ _)
      | (with_reducible exact spec_l1Cur_term.mono _ _ _ _ _)
      | (with_reducible exact spec_poAdd.mono _ _ _)
      | (with_reducible exact LeO.refl _)
      | (with_reducible exact LeO.none _)
      | (with_reducible refine LeO.ite ?_ ?_)
      | (with_reducible refine LeO.bind ?_ (fun _ => ?_))
      | exact ih0 _ _ _ _ _ _
      | exact ih1 _ _ _ _ _ _ _
      | exact spec_l1Cur_term.mono _ _ _ _ _
      | exact spec_poAdd.mono _ _ _
      | exact LeO.none _
      | refine LeO.ite ?_ ?_
      | refine LeO.bind ?_ (fun _ => ?_)
    · intro y0 y1 y2 y3 y4 y5 y6
      unfold spec_l1Cur_poly.l0
      repeat' first
      | (with_reducible exact ih0 _ _ _ _ _ _)
      | (with_reducible exact ih1 _ _ _ _ _ _ _)
      | (with_reducible exact spec_l1Cur_term.mono _ _ _ _ _)
      | (with_reducible exact spec_poAdd.mono _ _ _)
      | (with_reducible exact LeO.refl _)
      | (with_reducible exact LeO.none _)
      | (with_reducible refine LeO.ite ?_ ?_)
      | (with_reducible refine LeO.bind ?_ (fun _ => ?_))
      | exact ih0 _ _ _ _ _ _
      | exact ih1 _ _ _ _ _ _ _
      | exact spec_l1Cur_term.mono _ _ _ _ _
      | exact spec_poAdd.mono _ _ _
      | exact LeO.none _
      | refine LeO.ite ?_ ?_
      | refine LeO.bind ?_ (fun _ => ?_)
theorem spec_l1Cur_poly.mono : ∀ a0 a1 a2 a3 k, LeO (spec_l1Cur_poly.f k a0 a1 a2 a3) (spec_l1Cur_poly.f (k + 1) a0 a1 a2 a3) := by
  intro a0 a1 a2 a3 k
  obtain ⟨ih0, ih1⟩ := spec_l1Cur_poly.mono_l k
  unfold spec_l1Cur_poly.f
  repeat' first
      | (with_reducible exact ih0 _ _ _ _ _ _)
      | (with_reducible exact ih1 _ _ _ _ _ _ _)
      | (with_reducible exact spec_l1Cur_term.mono _ _ _ _ _)
      | (with_reducible exact spec_poAdd.mono _ _ _)
      | (with_reducible exact LeO.refl _)
      | (with_reducible exact LeO.none _)
      | (with_reducible refine LeO.ite ?_ ?_)
      | (with_reducible refine LeO.bind ?_ (fun _ => ?_))
      | exact ih0 _ _ _ _ _ _
      | exact ih1 _ _ _ _ _ _ _
      | exact spec_l1Cur_term.mono _ _ _ _ _
      | exact spec_poAdd.mono _ _ _
      | exact LeO.none _
      | refine LeO.ite ?_ ?_
      | refine LeO.bind ?_ (fun _ => ?_)
/-! spec_l1Cur_anyPoly -/
mutual
def spec_l1Cur_anyPoly.l0 : Nat → List (S62) → Int → List Int → Int → Int → Option ((List (S62)) × Int × Int)
  | 0, _, _, _, _, _ => none
  | k + 1, x5, x6, x1000, x1001, x1002 => if x6 ≤ 4 then (spec_l1Cur_anyPoly.l1 k x5 x6 0 x1000 x1001 x1002) else (some (x5, x1001, x1002))
def spec_l1Cur_anyPoly.l1 : Nat → List (S62) → Int → Int → List Int → Int → Int → Option ((List (S62)) × Int × Int)
  | 0, _, _, _, _, _, _ => none
  | k + 1, x5, x6, x7, x1000, x1001, x1002 => if (wrap64 (x6 + x7)) ≤ 4 then (spec_l1Cur_anyPoly.l2 k x5 x6 x7 0 x1000 x1001 x1002) else (spec_l1Cur_anyPoly.l0 k x5 (wrap64 (x6 + 1)) x1000 x1001 x1002)
def spec_l1Cur_anyPoly.l2 : Nat → List (S62) → Int → Int → Int → List Int → Int → Int → Option ((List (S62)) × Int × Int)
  | 0, _, _, _, _, _, _, _ => none
  | k + 1, x5, x6, x7, x8, x1000, x1001, x1002 => if (wrap64 ((wrap64 (x6 + x7)) + x8)) ≤ 4 then ((spec_l1Cur_pick.f x1000 x1001 x1002 2).bind fun bt297 => (if (x5.length : Int) < (wrap64 (20 + bt297.1)) then (if x5.length < 4398046511104 then (spec_l1Cur_anyPoly.l2 k (x5 ++ [(⟨1, x6, x7, x8⟩ : S62)]) x6 x7 (wrap64 (x8 + 1)) x1000 bt297.2.1 bt297.2.2) else (none)) else (spec_l1Cur_anyPoly.l1 k x5 x6 (wrap64 (x7 + 1)) x1000 bt297.2.1 bt297.2.2))) else (spec_l1Cur_anyPoly.l1 k x5 x6 (wrap64 (x7 + 1)) x1000 x1001 x1002)
end
def spec_l1Cur_anyPoly.f (k : Nat) (s0_0 : List Int) (s0_1 : Int) (s0_2 : Int) (a1 : Int) : Option ((List (S62)) × Int × Int) := (spec_l1Cur_poly.f k s0_0 s0_1 s0_2 a1).bind fun bt262 => ((spec_l1Cur_pick.f s0_0 bt262.2.1 bt262.2.2 40).bind fun bt267 => (if bt267.1 = 0 then ((spec_l1Cur_among.f s0_0 bt267.2.1 bt267.2.2 (([0, 1, 1001, (-1001)] : List Int))).bind fun bt273 => (if bt262.1.length < 4398046511104 then (some ((bt262.1 ++ [(⟨bt273.1, 4, 0, 0⟩ : S62)]), bt273.2.1, bt273.2.2)) else (none))) else (if bt267.1 = 1 then ((spec_l1Cur_among.f s0_0 bt267.2.1 bt267.2.2 (([5, (-1), 4611686018427387904] : List Int))).bind fun bt282 => ((spec_l1Cur_among.f s0_0 bt282.2.1 bt282.2.2 (([0, (-1), 4611686018427387904] : List Int))).bind fun bt288 => (if bt262.1.length < 4398046511104 then (some ((bt262.1 ++ [(⟨1, bt282.1, bt288.1, 0⟩ : S62)]), bt288.2.1, bt288.2.2)) else (none)))) else (if bt267.1 = 2 then (if bt262.1.length + bt262.1.length < 4398046511104 then (some ((bt262.1 ++ bt262.1), bt267.2.1, bt267.2.2)) else (none)) else (if bt267.1 = 3 then (spec_l1Cur_anyPoly.l0 k ([] : List (S62)) 0 s0_0 bt267.2.1 bt267.2.2) else (some (bt262.1, bt267.2.1, bt267.2.2)))))))
theorem spec_l1Cur_anyPoly.mono_l : ∀ k, (∀ y0 y1 y2 y3 y4, LeO (spec_l1Cur_anyPoly.l0 k y0 y1 y2 y3 y4) (spec_l1Cur_anyPoly.l0 (k + 1) y0 y1 y2 y3 y4)) ∧ (∀ y0 y1 y2 y3 y4 y5, LeO (spec_l1Cur_anyPoly.l1 k y0 y1 y2 y3 y4 y5) (spec_l1Cur_anyPoly.l1 (k + 1) y0 y1 y2 y3 y4 y5)) ∧ (∀ y0 y1 y2 y3 y4 y5 y6, LeO (spec_l1Cur_anyPoly.l2 k y0 y1 y2 y3 y4 y5 y6) (spec_l1Cur_anyPoly.l2 (k + 1) y0 y1 y2 y3 y4 y5 y6))
  | 0 => ⟨fun _ _ _ _ _ r h => by simp [spec_l1Cur_anyPoly.l0] at h, fun _ _ _ _ _ _ r h => by simp [spec_l1Cur_anyPoly.l1] at h, fun _ _ _ _ _ _ _ r h => by simp [spec_l1Cur_anyPoly.l2] at h⟩
  | k + 1 => by
    obtain ⟨ih0, ih1, ih2⟩ := spec_l1Cur_anyPoly.mono_l k
    refine ⟨?_, ?_, ?_⟩
    · intro y0 y1 y2 y3 y4
      unfold spec_l1Cur_anyPoly.l0
      repeat' first
      | (with_reducible exact ih0 _ _ _ _ _)
      | (with_reducible exact ih1 _ _ _ _ _ _)
      | (with_reducible exact ih2 _ _ _ _ _ _ _)
      | (with_reducible exact spec_l1Cur_poly.mono _ _ _ _ _)
      | (with_reducible exact LeO.refl _)
      | (with_reducible exact LeO.none _)
      | (with_reducible refine LeO.ite ?_ ?_)
      | (with_reducible refine LeO.bind ?_ (fun _ => ?_))
      | exact ih0 _ _ _ _ _
      | exact ih1 _ _ _ _ _ _
      | exact ih2 _ _ _ _ _ _ _
      | exact spec_l1Cur_poly.mono _ _ _ _ _
      | exact LeO.none _
      | refine LeO.ite ?_ ?_
      | refine LeO.bind ?_ (fun _ => ?_)
    · intro y0 y1 y2 y3 y4 y5
      unfold spec_l1Cur_anyPoly.l1
      repeat' first
      | (with_reducible exact ih0 _ _ _ _ _)
      | (with_reducible exact ih1 _ _ _ _ _ _)
      | (with_reducible exact ih2 _ _ _ _ _ _ _)
      | (with_reducible exact spec_l1Cur_poly.mono _ _ _ _ _)
      | (with_reducible exact LeO.refl _)
      | (with_reducible exact LeO.none _)
      | (with_reducible refine LeO.ite ?_ ?_)
      | (with_reducible refine LeO.bind ?_ (fun _ => ?_))
      | exact ih0 _ _ _ _ _
      | exact ih1 _ _ _ _ _ _
      | exact ih2 _ _ _ _ _ _ _
      | exact spec_l1Cur_poly.mono _ _ _ _ _
      | exact LeO.none _
      | refine LeO.ite ?_ ?_
      | refine LeO.bind ?_ (fun _ => ?_)
    · intro y0 y1 y2 y3 y4 y5 y6
      unfold spec_l1Cur_anyPoly.l2
      repeat' first
      | (with_reducible exact ih0 _ _ _ _ _)
      | (with_reducible exact ih1 _ _ _ _ _ _)
      | (with_reducible exact ih2 _ _ _ _ _ _ _)
      | (with_reducible exact spec_l1Cur_poly.mono _ _ _ _ _)
      | (with_reducible exact LeO.refl _)
      | (with_reducible exact LeO.none _)
      | (with_reducible refine LeO.ite ?_ ?_)
      | (with_reducible refine LeO.bind ?_ (fun _ => ?_))
      | exact ih0 _ _ _ _ _
      | exact ih1 _ _ _ _ _ _
      | exact ih2 _ _ _ _ _ _ _
      | exact spec_l1Cur_poly.mono _ _ _ _ _
      | exact LeO.none _
      | refine LeO.ite ?_ ?_
      | refine LeO.bind ?_ (fun _ => ?_)
/-! spec_l1Own -/
def spec_l1Own.f (l0 : List Int) : Option (List Int) := (some (([] : List Int) : List Int)).bind fun y303 => (if y303.length + l0.length < 17592186044416 then (some (y303 ++ l0)) else (none))
/-! spec_DrawExchangeUnknowns -/
-- HAND rounds=1 making=1
def spec_DrawExchangeUnknowns.sel6 (r : Int) : List Int := if r = 0 then [0, 1, 2] else (if r = 1 then [1, 0, 2] else (if r = 2 then [2, 1, 0] else (if r = 3 then [1, 2, 0] else (if r = 4 then [2, 0, 1] else ([0, 2, 1])))))
def spec_DrawExchangeUnknowns.sel4 (r : Int) : List Int := if r = 0 then [0, 1] else (if r = 1 then [0, 0, 2] else (if r = 2 then [0, 1, 3] else ([])))
def spec_DrawExchangeUnknowns.f (k : Nat) (l0 : List Int) : Option (List (S62) × List Int) := (spec_l1Cur_pick.f l0 0 0 3).bind fun a => ((spec_l1Cur_anyPoly.f k l0 a.2.1 a.2.2 (wrap64 (1 + a.1))).bind fun b => ((spec_l1Cur_one.f l0 b.2.1 b.2.2 16).bind fun c => (if c.1 = true then ((spec_l1Cur_pick.f l0 c.2.1 c.2.2 4).bind fun d => (if 0 ≤ d.1 ∧ d.1 < 4 then some (b.1, spec_DrawExchangeUnknowns.sel4 d.1) else none)) else ((spec_l1Cur_pick.f l0 c.2.1 c.2.2 6).bind fun d => (if 0 ≤ d.1 ∧ d.1 < 6 then some (b.1, spec_DrawExchangeUnknowns.sel6 d.1) else none)))))
/-! impl_inside -/
def impl_inside.f (a0 : Int) (a1 : Int) (a2 : Int) : Option (Bool) := if a0 ≥ a1 then (some (decide (a0 ≤ a2))) else (some false)
/-! impl_Term_degree -/
def impl_Term_degree.f (a0_0 : Int) (a0_1 : Int) (a0_2 : Int) (a0_3 : Int) : Option (Int) := some (wrap64 ((wrap64 (a0_1 + a0_2)) + a0_3))
/-! impl_hasDegree -/
def impl_hasDegree.f (a0_0 : Int) (a0_1 : Int) (a0_2 : Int) (a0_3 : Int) : Option (Bool) := (impl_inside.f a0_1 0 4).bind fun t311 => (if t311 = true then ((impl_inside.f a0_2 0 4).bind fun t312 => (if t312 = true then ((impl_inside.f a0_3 0 4).bind fun t313 => (if t313 = true then ((impl_Term_degree.f a0_0 a0_1 a0_2 a0_3).bind fun t314 => (some (decide (t314 ≤ 4)))) else (some false))) else (some false))) else (some false))
/-! cmp_Or_int -/
def cmp_Or_int.l0 : Nat → Int → List Int → Int → Int → Option (Int)
  | 0, _, _, _, _ => none
  | k + 1, x3, x6, x7, x8 => if x8 < x7 then (if 0 ≤ x8 then (if x8 < (x6.length : Int) then (if (rd x6 x8) = x3 then (cmp_Or_int.l0 k x3 x6 x7 (wrap64 (x8 + 1))) else (some (rd x6 x8))) else (none)) else (none)) else (some x3)
def cmp_Or_int.f (k : Nat) (l0 : List Int) : Option (Int) := cmp_Or_int.l0 k 0 l0 (l0.length : Int) 0
/-! cmp_isNaN_int -/
def cmp_isNaN_int.f (a0 : Int) : Option (Bool) := some (a0 != a0)
/-! cmp_Compare_int -/
def cmp_Compare_int.f (a0 : Int) (a1 : Int) : Option (Int) := (cmp_isNaN_int.f a0).bind fun t316 => ((cmp_isNaN_int.f a1).bind fun t317 => (if t316 = true then (if t317 = true then (some 0) else (some (-1))) else (if t317 = true then (some 1) else (if a0 < a1 then (some (-1)) else (if a0 > a1 then (some 1) else (some 0))))))
/-! impl_compareTerms -/
def impl_compareTerms.f (k : Nat) (a0_0 : Int) (a0_1 : Int) (a0_2 : Int) (a0_3 : Int) (a1_0 : Int) (a1_1 : Int) (a1_2 : Int) (a1_3 : Int) : Option (Int) := (cmp_Compare_int.f a0_1 a1_1).bind fun t320 => ((cmp_Compare_int.f a0_2 a1_2).bind fun t321 => ((cmp_Compare_int.f a0_3 a1_3).bind fun t322 => ((cmp_Or_int.f k (([t320, t321, t322] : List Int))).bind fun t326 => (some t326))))
/-! impl_isPoly -/
def impl_isPoly.l0 : Nat → List (S62) → List (S62) → Int → Int → Option (Bool)
  | 0, _, _, _, _ => none
  | k + 1, x0, x5, x6, x7 => if x7 < x6 then (if 0 ≤ x7 then (if x7 < (x5.length : Int) then (if ((rd_T62 x5 x7).f0) = 0 then (some false) else ((impl_inside.f ((rd_T62 x5 x7).f0) (-1000) 1000).bind fun t329 => (if t329 = true then ((impl_hasDegree.f ((rd_T62 x5 x7).f0) ((rd_T62 x5 x7).f1) ((rd_T62 x5 x7).f2) ((rd_T62 x5 x7).f3)).bind fun t330 => (if t330 = true then (if x7 > 0 then (if 0 ≤ (wrap64 (x7 - 1)) then (if (wrap64 (x7 - 1)) < (x0.length : Int) then ((impl_compareTerms.f k ((rd_T62 x0 (wrap64 (x7 - 1))).f0) ((rd_T62 x0 (wrap64 (x7 - 1))).f1) ((rd_T62 x0 (wrap64 (x7 - 1))).f2) ((rd_T62 x0 (wrap64 (x7 - 1))).f3) ((rd_T62 x5 x7).f0) ((rd_T62 x5 x7).f1) ((rd_T62 x5 x7).f2) ((rd_T62 x5 x7).f3)).bind fun t332 => (if t332 ≥ 0 then (some false) else (impl_isPoly.l0 k x0 x5 x6 (wrap64 (x7 + 1))))) else (none)) else (none)) else (impl_isPoly.l0 k x0 x5 x6 (wrap64 (x7 + 1)))) else (some false))) else (some false)))) else (none)) else (none)) else (some (decide ((x0.length : Int) ≤ 20)))
def impl_isPoly.f (k : Nat) (l0 : List (S62)) : Option (Bool) := impl_isPoly.l0 k l0 l0 (l0.length : Int) 0
/-! slices_Equal_int_int -/
def slices_Equal_int_int.l0 : Nat → List Int → List Int → Int → Int → Option (Bool)
  | 0, _, _, _, _ => none
  | k + 1, x0, x1, x12, x13 => if x13 < x12 then (if 0 ≤ x13 then (if x13 < (x0.length : Int) then (if x13 < (x1.length : Int) then (if (rd x0 x13) = (rd x1 x13) then (slices_Equal_int_int.l0 k x0 x1 x12 (wrap64 (x13 + 1))) else (some false)) else (none)) else (none)) else (none)) else (some true)
def slices_Equal_int_int.f (k : Nat) (l0 : List Int) (l1 : List Int) : Option (Bool) := if (l0.length : Int) = (l1.length : Int) then (slices_Equal_int_int.l0 k l0 l1 (l0.length : Int) 0) else (some false)
/-! cmp_Less_int -/
/-! slices_insertionSortOrdered_int -/
/-! slices_siftDownOrdered_int -/
/-! slices_heapSortOrdered_int -/
/-! bits_Len32 -/
/-! bits_Len64 -/
/-! bits_Len -/
/-! slices_nextPowerOfTwo -/
/-! slices_reverseRangeOrdered_int -/
/-! slices_partialInsertionSortOrdered_int -/
/-! slices_partitionEqualOrdered_int -/
/-! slices_partitionOrdered_int -/
/-! impl_polyResult -/
def impl_polyResult.f (k : Nat) (l0 : List (S62)) : Option ((List (S62)) × Bool) := (impl_isPoly.f k l0).bind fun t455 => (if t455 = true then (some (l0, true)) else (some (([] : List (S62)), false)))
/-! impl_collect -/
-- HAND rounds=0 making=1
/-- A term, as the plain text on sums takes it. -/
def impl_collect.ops : Go.Proofs.YthanmlojikidbaaGreatCol.Ops S62 := { c := fun s => s.f0, x := fun s => s.f1, y := fun s => s.f2, z := fun s => s.f3, st := fun s n => ⟨n, s.f1, s.f2, s.f3⟩, c_st := fun _ _ => rfl, x_st := fun _ _ => rfl, y_st := fun _ _ => rfl, z_st := fun _ _ => rfl, ext := fun s t h1 h2 h3 h4 => by cases s; cases t; simp_all }
def impl_collect.ok (l : List S62) : Bool := decide (l.length ≤ 1000000) && l.all (fun t => decide (wrap64 t.f0 = t.f0))
def impl_collect.f (l0 : List (S62)) : Option (List (S62)) := if impl_collect.ok l0 = true then some (Go.Proofs.YthanmlojikidbaaGreatCol.sums impl_collect.ops l0) else none
/-! impl_ExchangeUnknowns -/
-- HAND rounds=1 making=1
def impl_ExchangeUnknowns.pt (o : List Int) (x y z j p : Int) : Int := if 1 ≤ j ∧ rd o 0 = p then x else (if 2 ≤ j ∧ rd o 1 = p then y else (if 3 ≤ j ∧ rd o 2 = p then z else 0))
def impl_ExchangeUnknowns.tm (t : S62) (o : List Int) : S62 := ⟨t.f0, impl_ExchangeUnknowns.pt o t.f1 t.f2 t.f3 3 0, impl_ExchangeUnknowns.pt o t.f1 t.f2 t.f3 3 1, impl_ExchangeUnknowns.pt o t.f1 t.f2 t.f3 3 2⟩
def impl_ExchangeUnknowns.perm (o : List Int) : Prop := o = [0, 1, 2] ∨ o = [0, 2, 1] ∨ o = [1, 0, 2] ∨ o = [1, 2, 0] ∨ o = [2, 0, 1] ∨ o = [2, 1, 0]
instance (o : List Int) : Decidable (impl_ExchangeUnknowns.perm o) := by unfold impl_ExchangeUnknowns.perm; infer_instance
def impl_ExchangeUnknowns.l0 : Nat → List S62 → List Int → List S62 → Int → Option (List S62 × Bool)
  | 0, _, _, _, _ => none
  | k + 1, l, o, x, i => if i < (l.length : Int) then (if 0 ≤ i then (if x.length < 4398046511104 then impl_ExchangeUnknowns.l0 k l o (x ++ [impl_ExchangeUnknowns.tm (rd_T62 l i) o]) (wrap64 (i + 1)) else none) else none) else (impl_collect.f x).bind fun t => impl_polyResult.f k t
def impl_ExchangeUnknowns.f (k : Nat) (l0 : List (S62)) (l1 : List Int) : Option (List (S62) × Bool) := (impl_isPoly.f k l0).bind fun p => if p = true then (if l1.length < 4398046511104 then ((slices_Equal_int_int.f k (l1.mergeSort fun x y => decide (x ≤ y)) [0, 1, 2]).bind fun q => if q = true then (if impl_ExchangeUnknowns.perm l1 then impl_ExchangeUnknowns.l0 k l0 l1 [] 0 else none) else some ([], false)) else none) else some ([], false)
/-! spec_l1All -/
def spec_l1All.l0 : Nat → Int → Int → List Int → Int → Int → Option (Bool)
  | 0, _, _, _, _, _ => none
  | k + 1, x1, x2, x9, x10, x11 => if x11 < x10 then (if 0 ≤ x11 then (if x11 < (x9.length : Int) then ((spec_l1In.f (rd x9 x11) x1 x2).bind fun t457 => (if t457 = true then (spec_l1All.l0 k x1 x2 x9 x10 (wrap64 (x11 + 1))) else (some false))) else (none)) else (none)) else (some true)
def spec_l1All.f (k : Nat) (l0 : List Int) (a1 : Int) (a2 : Int) : Option (Bool) := spec_l1All.l0 k a1 a2 l0 (l0.length : Int) 0
/-! spec_l1Has -/
def spec_l1Has.l0 : Nat → Int → List Int → Int → Int → Option (Bool)
  | 0, _, _, _, _ => none
  | k + 1, x1, x7, x8, x9 => if x9 < x8 then (if 0 ≤ x9 then (if x9 < (x7.length : Int) then (if (rd x7 x9) = x1 then (some true) else (spec_l1Has.l0 k x1 x7 x8 (wrap64 (x9 + 1)))) else (none)) else (none)) else (some false)
def spec_l1Has.f (k : Nat) (l0 : List Int) (a1 : Int) : Option (Bool) := spec_l1Has.l0 k a1 l0 (l0.length : Int) 0
/-! spec_poPower -/
def spec_poPower.f (a0_0 : Int) (a0_1 : Int) (a0_2 : Int) (a0_3 : Int) (a1 : Int) : Option (Int) := if a1 = 0 then (some a0_1) else (if a1 = 1 then (some a0_2) else (some a0_3))
/-! spec_poExchange -/
mutual
def spec_poExchange.l0 : Nat → List Int → List (S62) → List (S62) → Int → Int → Option ((List (S62)))
  | 0, _, _, _, _, _ => none
  | k + 1, x1, x5, x11, x12, x13 => if x13 < x12 then (if 0 ≤ x13 then (if x13 < (x11.length : Int) then (spec_poExchange.l1 k x1 x5 x11 x12 x13 x1 (x1.length : Int) 0 ((rd_T62 x11 x13).f0) ((rd_T62 x11 x13).f1) ((rd_T62 x11 x13).f2) ((rd_T62 x11 x13).f3) ((rd_T62 x11 x13).f0) 0 0 0) else (none)) else (none)) else (some x5)
def spec_poExchange.l1 : Nat → List Int → List (S62) → List (S62) → Int → Int → List Int → Int → Int → Int → Int → Int → Int → Int → Int → Int → Int → Option ((List (S62)))
  | 0, _, _, _, _, _, _, _, _, _, _, _, _, _, _, _, _ => none
  | k + 1, x1, x5, x11, x12, x13, x20, x21, x22, x462000, x462001, x462002, x462003, x463000, x463001, x463002, x463003 => if x22 < x21 then (if 0 ≤ x22 then (if x22 < (x20.length : Int) then ((spec_poPower.f x462000 x462001 x462002 x462003 x22).bind fun t464 => ((spec_poWith.f x463000 x463001 x463002 x463003 (rd x20 x22) t464).bind fun bt465 => (spec_poExchange.l1 k x1 x5 x11 x12 x13 x20 x21 (wrap64 (x22 + 1)) x462000 x462001 x462002 x462003 bt465.1 bt465.2.1 bt465.2.2.1 bt465.2.2.2))) else (none)) else (none)) else ((spec_poPut.f k x5 x463000 x463001 x463002 x463003).bind fun t469 => (spec_poExchange.l0 k x1 t469 x11 x12 (wrap64 (x13 + 1))))
end
def spec_poExchange.f (k : Nat) (l0 : List (S62)) (l1 : List Int) : Option ((List (S62))) := spec_poExchange.l0 k l1 ([] : List (S62)) l0 (l0.length : Int) 0
/-! spec_ExchangeUnknowns -/
def spec_ExchangeUnknowns.f (k : Nat) (l0 : List (S62)) (l1 : List Int) : Option ((List (S62)) × Bool) := (spec_poGood.f k l0).bind fun t472 => (if t472 = true then (if (l1.length : Int) = 3 then ((spec_l1All.f k l1 0 2).bind fun t473 => (if t473 = true then ((spec_l1Has.f k l1 0).bind fun t474 => (if t474 = true then ((spec_l1Has.f k l1 1).bind fun t475 => (if t475 = true then ((spec_l1Has.f k l1 2).bind fun t476 => (if t476 = true then ((spec_poExchange.f k l0 l1).bind fun t477 => (some (t477, true))) else (some (([] : List (S62)), false)))) else (some (([] : List (S62)), false)))) else (some (([] : List (S62)), false)))) else (some (([] : List (S62)), false)))) else (some (([] : List (S62)), false))) else (some (([] : List (S62)), false)))
/-! laws_pSameTerms -/
def laws_pSameTerms.l0 : Nat → List (S62) → List (S62) → Int → Int → Option (Bool)
  | 0, _, _, _, _ => none
  | k + 1, x0, x1, x12, x13 => if x13 < x12 then (if 0 ≤ x13 then (if x13 < (x0.length : Int) then (if x13 < (x1.length : Int) then (if (!(((rd_T62 x0 x13).f0) == ((rd_T62 x1 x13).f0)) || (!(((rd_T62 x0 x13).f1) == ((rd_T62 x1 x13).f1)) || (!(((rd_T62 x0 x13).f2) == ((rd_T62 x1 x13).f2)) || (!(((rd_T62 x0 x13).f3) == ((rd_T62 x1 x13).f3)))))) = true then (some false) else (laws_pSameTerms.l0 k x0 x1 x12 (wrap64 (x13 + 1)))) else (none)) else (none)) else (none)) else (some true)
def laws_pSameTerms.f (k : Nat) (l0 : List (S62)) (l1 : List (S62)) : Option (Bool) := if (l0.length : Int) = (l1.length : Int) then (laws_pSameTerms.l0 k l0 l1 (l0.length : Int) 0) else (some false)
/-! impl_degreeOf -/
def impl_degreeOf.l0 : Nat → Int → List (S62) → Int → Int → Option (Int)
  | 0, _, _, _, _ => none
  | k + 1, x3, x6, x7, x8 => if x8 < x7 then (if 0 ≤ x8 then (if x8 < (x6.length : Int) then ((impl_Term_degree.f ((rd_T62 x6 x8).f0) ((rd_T62 x6 x8).f1) ((rd_T62 x6 x8).f2) ((rd_T62 x6 x8).f3)).bind fun t484 => (impl_degreeOf.l0 k (mx x3 t484) x6 x7 (wrap64 (x8 + 1)))) else (none)) else (none)) else (some x3)
def impl_degreeOf.f (k : Nat) (l0 : List (S62)) : Option (Int) := impl_degreeOf.l0 k (-1) l0 (l0.length : Int) 0
/-! impl_DegreeOf -/
def impl_DegreeOf.f (k : Nat) (l0 : List (S62)) : Option (Int × Bool) := (impl_isPoly.f k l0).bind fun t485 => (if t485 = true then ((impl_degreeOf.f k l0).bind fun t486 => (some (t486, true))) else (some (0, false)))
/-! spec_l1Most -/
def spec_l1Most.f (a0 : Int) (a1 : Int) : Option (Int) := if a0 > a1 then (some a0) else (some a1)
/-! spec_poDegree -/
def spec_poDegree.l0 : Nat → Int → List (S62) → Int → Int → Option (Int)
  | 0, _, _, _, _ => none
  | k + 1, x3, x6, x7, x8 => if x8 < x7 then (if 0 ≤ x8 then (if x8 < (x6.length : Int) then ((spec_l1Most.f x3 (wrap64 ((wrap64 (((rd_T62 x6 x8).f1) + ((rd_T62 x6 x8).f2))) + ((rd_T62 x6 x8).f3)))).bind fun t489 => (spec_poDegree.l0 k t489 x6 x7 (wrap64 (x8 + 1)))) else (none)) else (none)) else (some x3)
def spec_poDegree.f (k : Nat) (l0 : List (S62)) : Option (Int) := spec_poDegree.l0 k (-1) l0 (l0.length : Int) 0
/-! spec_DegreeOf -/
def spec_DegreeOf.f (k : Nat) (l0 : List (S62)) : Option (Int × Bool) := (spec_poGood.f k l0).bind fun t490 => (if t490 = true then ((spec_poDegree.f k l0).bind fun t491 => (some (t491, true))) else (some (0, false)))
/-! spec_l1Cur_unknownOf -/
def spec_l1Cur_unknownOf.f (s0_0 : List Int) (s0_1 : Int) (s0_2 : Int) : Option (Int × Int × Int) := (spec_l1Cur_among.f s0_0 s0_1 s0_2 (([(-1), 3, 4611686018427387904] : List Int))).bind fun bt495 => ((spec_l1Cur_among.f s0_0 bt495.2.1 bt495.2.2 (([0, 1, 2, 0, 1, 2, 0, 1, bt495.1] : List Int))).bind fun bt501 => (some (bt501.1, bt501.2.1, bt501.2.2)))
/-! spec_DrawPutInteger -/
def spec_DrawPutInteger.f (k : Nat) (l0 : List Int) : Option ((List (S62)) × Int × Int) := (spec_l1Cur_pick.f l0 0 0 3).bind fun bt505 => ((spec_l1Cur_anyPoly.f k l0 bt505.2.1 bt505.2.2 (wrap64 (1 + bt505.1))).bind fun bt508 => ((spec_l1Cur_unknownOf.f l0 bt508.2.1 bt508.2.2).bind fun bt513 => ((spec_l1Cur_among.f l0 bt513.2.1 bt513.2.2 (([101, (-101)] : List Int))).bind fun bt519 => ((spec_l1Cur_among.f l0 bt519.2.1 bt519.2.2 (([0, 1, (-1), 2, 3, (-5), 100, (-100), bt519.1] : List Int))).bind fun bt525 => (some (bt508.1, bt513.1, bt525.1))))))
/-! impl_isUnknown -/
def impl_isUnknown.f (a0 : Int) : Option (Bool) := (impl_inside.f a0 0 2).bind fun t528 => (some t528)
/-! impl_PutInteger -/
-- HAND rounds=1 making=1
def impl_PutInteger.tm (t : S62) (a c : Int) : S62 := if a = 0 then ⟨c, 0, t.f2, t.f3⟩ else (if a = 1 then ⟨c, t.f1, 0, t.f3⟩ else ⟨c, t.f1, t.f2, 0⟩)
def impl_PutInteger.pw (t : S62) (a : Int) : Int := if a = 0 then t.f1 else (if a = 1 then t.f2 else t.f3)
mutual
def impl_PutInteger.l0 : Nat → List S62 → Int → Int → List S62 → Int → Option (List S62 × Bool)
  | 0, _, _, _, _, _ => none
  | k + 1, l, a, n, x, i => if i < (l.length : Int) then (if 0 ≤ i then impl_PutInteger.l1 k l a n x i (rd_T62 l i).f0 (impl_PutInteger.pw (rd_T62 l i) a) 0 else none) else (impl_collect.f x).bind fun t => impl_polyResult.f k t
def impl_PutInteger.l1 : Nat → List S62 → Int → Int → List S62 → Int → Int → Int → Int → Option (List S62 × Bool)
  | 0, _, _, _, _, _, _, _, _ => none
  | k + 1, l, a, n, x, i, c, e, j => if j < e then impl_PutInteger.l1 k l a n x i (wrap64 (c * n)) e (wrap64 (j + 1)) else (if x.length < 4398046511104 then impl_PutInteger.l0 k l a n (x ++ [impl_PutInteger.tm (rd_T62 l i) a c]) (wrap64 (i + 1)) else none)
end
def impl_PutInteger.f (k : Nat) (l0 : List (S62)) (a1 : Int) (a2 : Int) : Option (List (S62) × Bool) := (impl_isPoly.f k l0).bind fun p => if p = true then ((impl_isUnknown.f a1).bind fun u => if u = true then ((impl_inside.f a2 (-100) 100).bind fun q => if q = true then (if 0 ≤ a1 then (if a1 ≤ 2 then impl_PutInteger.l0 k l0 a1 a2 [] 0 else none) else none) else some ([], false)) else some ([], false)) else some ([], false)
/-! spec_poUnknown -/
def spec_poUnknown.f (a0 : Int) : Option (Bool) := (spec_l1In.f a0 0 2).bind fun t529 => (some t529)
/-! spec_PutInteger -/
mutual
def spec_PutInteger.j0 : Nat → List (S62) → Int → Int → Bool → Option ((List (S62)) × Bool)
  | 0, _, _, _, _ => none
  | k + 1, x0, x1, x2, x24 => if x24 = true then (some (([] : List (S62)), false)) else (spec_PutInteger.l0 k x1 x2 ([] : List (S62)) x0 (x0.length : Int) 0)
def spec_PutInteger.l0 : Nat → Int → Int → List (S62) → List (S62) → Int → Int → Option ((List (S62)) × Bool)
  | 0, _, _, _, _, _, _ => none
  | k + 1, x1, x2, x8, x25, x26, x27 => if x27 < x26 then (if 0 ≤ x27 then (if x27 < (x25.length : Int) then ((spec_poPower.f ((rd_T62 x25 x27).f0) ((rd_T62 x25 x27).f1) ((rd_T62 x25 x27).f2) ((rd_T62 x25 x27).f3) x1).bind fun t539 => (spec_PutInteger.l1 k x1 x2 x8 t539 x25 x26 x27 ((rd_T62 x25 x27).f0) ((rd_T62 x25 x27).f1) ((rd_T62 x25 x27).f2) ((rd_T62 x25 x27).f3))) else (none)) else (none)) else ((spec_poSum.f k x8).bind fun bt533 => (some (bt533.1, bt533.2)))
def spec_PutInteger.l1 : Nat → Int → Int → List (S62) → Int → List (S62) → Int → Int → Int → Int → Int → Int → Option ((List (S62)) × Bool)
  | 0, _, _, _, _, _, _, _, _, _, _, _ => none
  | k + 1, x1, x2, x8, x11, x25, x26, x27, x539000, x539001, x539002, x539003 => if x11 > 0 then (spec_PutInteger.l1 k x1 x2 x8 (wrap64 (x11 - 1)) x25 x26 x27 (wrap64 (x539000 * x2)) x539001 x539002 x539003) else ((spec_poWith.f x539000 x539001 x539002 x539003 x1 0).bind fun bt540 => (if x8.length < 4398046511104 then (spec_PutInteger.l0 k x1 x2 (x8 ++ [(⟨bt540.1, bt540.2.1, bt540.2.2.1, bt540.2.2.2⟩ : S62)]) x25 x26 (wrap64 (x27 + 1))) else (none)))
end
def spec_PutInteger.f (k : Nat) (l0 : List (S62)) (a1 : Int) (a2 : Int) : Option ((List (S62)) × Bool) := (spec_poGood.f k l0).bind fun t530 => (if t530 = true then ((spec_poUnknown.f a1).bind fun t531 => (if t531 = true then ((spec_l1In.f a2 (-100) 100).bind fun t532 => (spec_PutInteger.j0 k l0 a1 a2 (!t532))) else (spec_PutInteger.j0 k l0 a1 a2 true))) else (spec_PutInteger.j0 k l0 a1 a2 true))
/-! impl_DegreeIn -/
-- HAND rounds=1 making=1
/-- An exponent of a term. -/
def impl_DegreeIn.pw (t : S62) (k : Int) : Int := if k = 0 then t.f1 else (if k = 1 then t.f2 else t.f3)
def impl_DegreeIn.l0 : Nat → List S62 → Int → Int → Int → Option (Int × Bool)
  | 0, _, _, _, _ => none
  | k + 1, l, a, m, i => if i < (l.length : Int) then (if 0 ≤ i then impl_DegreeIn.l0 k l a (mx m (impl_DegreeIn.pw (rd_T62 l i) a)) (wrap64 (i + 1)) else none) else some (m, true)
def impl_DegreeIn.f (k : Nat) (l0 : List (S62)) (a1 : Int) : Option (Int × Bool) := (impl_isPoly.f k l0).bind fun p => if p = true then ((impl_isUnknown.f a1).bind fun u => if u = true then (if 0 ≤ a1 then (if a1 ≤ 2 then impl_DegreeIn.l0 k l0 a1 (-1) 0 else none) else none) else some (0, false)) else some (0, false)
/-! impl_UnknownsOf -/
-- HAND rounds=1 making=1
/-- The first term with the unknown. -/
def impl_UnknownsOf.ix : Nat → List S62 → Int → Int → Option Int
  | 0, _, _, _ => none
  | k + 1, l, u, i => if i < (l.length : Int) then (if 0 ≤ i then (if impl_DegreeIn.pw (rd_T62 l i) u > 0 then some i else impl_UnknownsOf.ix k l u (wrap64 (i + 1))) else none) else some (-1)
def impl_UnknownsOf.l0 : Nat → List S62 → List Int → Int → Option (List Int × Bool)
  | 0, _, _, _ => none
  | k + 1, l, xs, i => if i < 3 then (if 0 ≤ i then ((impl_UnknownsOf.ix k l i 0).bind fun r => if r ≥ 0 then (if xs.length < 17592186044416 then impl_UnknownsOf.l0 k l (xs ++ [i]) (wrap64 (i + 1)) else none) else impl_UnknownsOf.l0 k l xs (wrap64 (i + 1))) else none) else some (xs, true)
def impl_UnknownsOf.f (k : Nat) (l0 : List (S62)) : Option (List Int × Bool) := (impl_isPoly.f k l0).bind fun p => if p = true then impl_UnknownsOf.l0 k l0 [] 0 else some ([], false)
/-! spec_poDegreeIn -/
def spec_poDegreeIn.l0 : Nat → Int → Int → List (S62) → Int → Int → Option (Int)
  | 0, _, _, _, _, _ => none
  | k + 1, x1, x5, x8, x9, x10 => if x10 < x9 then (if 0 ≤ x10 then (if x10 < (x8.length : Int) then ((spec_poPower.f ((rd_T62 x8 x10).f0) ((rd_T62 x8 x10).f1) ((rd_T62 x8 x10).f2) ((rd_T62 x8 x10).f3) x1).bind fun t549 => ((spec_l1Most.f x5 t549).bind fun t550 => (spec_poDegreeIn.l0 k x1 t550 x8 x9 (wrap64 (x10 + 1))))) else (none)) else (none)) else (some x5)
def spec_poDegreeIn.f (k : Nat) (l0 : List (S62)) (a1 : Int) : Option (Int) := spec_poDegreeIn.l0 k a1 (-1) l0 (l0.length : Int) 0
/-! spec_UnknownsOf -/
def spec_UnknownsOf.l0 : Nat → List (S62) → List Int → Int → Option (List Int × Bool)
  | 0, _, _, _ => none
  | k + 1, x0, x4, x5 => if x5 < 3 then ((spec_poDegreeIn.f k x0 x5).bind fun t552 => (if t552 > 0 then (if x4.length < 17592186044416 then (spec_UnknownsOf.l0 k x0 (x4 ++ [x5]) (wrap64 (x5 + 1))) else (none)) else (spec_UnknownsOf.l0 k x0 x4 (wrap64 (x5 + 1))))) else (some (x4, true))
def spec_UnknownsOf.f (k : Nat) (l0 : List (S62)) : Option (List Int × Bool) := (spec_poGood.f k l0).bind fun t551 => (if t551 = true then (spec_UnknownsOf.l0 k l0 ([] : List Int) 0) else (some (([] : List Int), false)))
/-! laws_sameInts -/
def laws_sameInts.l0 : Nat → List Int → List Int → Int → Int → Option (Bool)
  | 0, _, _, _, _ => none
  | k + 1, x0, x1, x12, x13 => if x13 < x12 then (if 0 ≤ x13 then (if x13 < (x0.length : Int) then (if x13 < (x1.length : Int) then (if (rd x0 x13) = (rd x1 x13) then (laws_sameInts.l0 k x0 x1 x12 (wrap64 (x13 + 1))) else (some false)) else (none)) else (none)) else (none)) else (some true)
def laws_sameInts.f (k : Nat) (l0 : List Int) (l1 : List Int) : Option (Bool) := if (l0.length : Int) = (l1.length : Int) then (laws_sameInts.l0 k l0 l1 (l0.length : Int) 0) else (some false)
/-! laws_pIn -/
def laws_pIn.l0 : Nat → Int → List Int → Int → Int → Option (Bool)
  | 0, _, _, _, _ => none
  | k + 1, x1, x7, x8, x9 => if x9 < x8 then (if 0 ≤ x9 then (if x9 < (x7.length : Int) then (if (rd x7 x9) = x1 then (some true) else (laws_pIn.l0 k x1 x7 x8 (wrap64 (x9 + 1)))) else (none)) else (none)) else (some false)
def laws_pIn.f (k : Nat) (l0 : List Int) (a1 : Int) : Option (Bool) := laws_pIn.l0 k a1 l0 (l0.length : Int) 0
/-! spec_DrawDerivePoly -/
def spec_DrawDerivePoly.f (k : Nat) (l0 : List Int) : Option ((List (S62)) × Int) := (spec_l1Cur_pick.f l0 0 0 3).bind fun bt560 => ((spec_l1Cur_anyPoly.f k l0 bt560.2.1 bt560.2.2 (wrap64 (1 + bt560.1))).bind fun bt563 => ((spec_l1Cur_unknownOf.f l0 bt563.2.1 bt563.2.2).bind fun bt568 => (some (bt563.1, bt568.1))))
/-! spec_DrawDegreeIn -/
def spec_DrawDegreeIn.f (k : Nat) (l0 : List Int) : Option ((List (S62)) × Int) := (spec_DrawDerivePoly.f k l0).bind fun bt571 => (some (bt571.1, bt571.2))
/-! spec_DegreeIn -/
def spec_DegreeIn.f (k : Nat) (l0 : List (S62)) (a1 : Int) : Option (Int × Bool) := (spec_poGood.f k l0).bind fun t575 => (if t575 = true then ((spec_poUnknown.f a1).bind fun t576 => (if t576 = true then ((spec_poDegreeIn.f k l0 a1).bind fun t577 => (some (t577, true))) else (some (0, false)))) else (some (0, false)))
/-! spec_DrawIsPoly -/
def spec_DrawIsPoly.f (k : Nat) (l0 : List Int) : Option ((List (S62))) := (spec_l1Cur_pick.f l0 0 0 3).bind fun bt579 => ((spec_l1Cur_anyPoly.f k l0 bt579.2.1 bt579.2.2 (wrap64 (1 + bt579.1))).bind fun bt582 => (some bt582.1))
/-! spec_DrawDegreeOf -/
def spec_DrawDegreeOf.f (k : Nat) (l0 : List Int) : Option ((List (S62))) := (spec_DrawIsPoly.f k l0).bind fun t587 => (some t587)
/-! impl_IsPoly -/
def impl_IsPoly.f (k : Nat) (l0 : List (S62)) : Option (Bool) := (impl_isPoly.f k l0).bind fun t590 => (some t590)
/-! spec_l1Cur_system -/
def spec_l1Cur_system.l0 : Nat → Int → List (List (S62)) → List Int → Int → Int → Option ((List (List (S62))) × Int × Int)
  | 0, _, _, _, _, _ => none
  | k + 1, x1, x5, x1000, x1001, x1002 => if (x5.length : Int) < x1 then ((spec_l1Cur_poly.f k x1000 x1001 x1002 x1).bind fun bt591 => (if x5.length < 5864062014805 then (spec_l1Cur_system.l0 k x1 (x5 ++ [bt591.1]) x1000 bt591.2.1 bt591.2.2) else (none))) else (some (x5, x1001, x1002))
def spec_l1Cur_system.f (k : Nat) (s0_0 : List Int) (s0_1 : Int) (s0_2 : Int) (a1 : Int) : Option ((List (List (S62))) × Int × Int) := spec_l1Cur_system.l0 k a1 ([] : List (List (S62))) s0_0 s0_1 s0_2
/-! spec_l1Cur_anySystem -/
def spec_l1Cur_anySystem.f (k : Nat) (s0_0 : List Int) (s0_1 : Int) (s0_2 : Int) : Option ((List (List (S62))) × Int × Int) := (spec_l1Cur_among.f s0_0 s0_1 s0_2 (([1, 2, 2, 2, 3] : List Int))).bind fun bt602 => ((spec_l1Cur_system.f k s0_0 bt602.2.1 bt602.2.2 bt602.1).bind fun bt605 => ((spec_l1Cur_pick.f s0_0 bt605.2.1 bt605.2.2 30).bind fun bt610 => (if bt610.1 = 0 then ((spec_l1Cur_pick.f s0_0 bt610.2.1 bt610.2.2 bt602.1).bind fun bt613 => ((spec_l1Cur_anyPoly.f k s0_0 bt613.2.1 bt613.2.2 3).bind fun bt616 => (if 0 ≤ bt613.1 then (if bt613.1 < (bt605.1.length : Int) then (some ((bt605.1.set (bt613.1 : Int).toNat bt616.1), bt616.2.1, bt616.2.2)) else (none)) else (none)))) else (if bt610.1 = 1 then (some (([] : List (List (S62))), bt610.2.1, bt610.2.2)) else (if bt610.1 = 2 then ((spec_l1Cur_system.f k s0_0 bt610.2.1 bt610.2.2 4).bind fun bt622 => (some (bt622.1, bt622.2.1, bt622.2.2))) else (some (bt605.1, bt610.2.1, bt610.2.2)))))))
/-! spec_DrawIsSystem -/
def spec_DrawIsSystem.f (k : Nat) (l0 : List Int) : Option ((List (List (S62)))) := (spec_l1Cur_anySystem.f k l0 0 0).bind fun bt628 => (some bt628.1)
/-! impl_needsAtMost -/
-- HAND rounds=1 making=1
/-- An exponent of a term. -/
def impl_needsAtMost.pw (t : S62) (k : Int) : Int := if k = 0 then t.f1 else (if k = 1 then t.f2 else t.f3)
mutual
def impl_needsAtMost.l0 : Nat → List S62 → Int → Int → Option Bool
  | 0, _, _, _ => none
  | k + 1, l, n, i => if i < (l.length : Int) then (if 0 ≤ i then impl_needsAtMost.l1 k l n i 0 else none) else some true
def impl_needsAtMost.l1 : Nat → List S62 → Int → Int → Int → Option Bool
  | 0, _, _, _, _ => none
  | k + 1, l, n, i, j => if j < 3 then (if 0 ≤ j then (if j ≥ n then (if impl_needsAtMost.pw (rd_T62 l i) j > 0 then some false else impl_needsAtMost.l1 k l n i (wrap64 (j + 1))) else impl_needsAtMost.l1 k l n i (wrap64 (j + 1))) else none) else impl_needsAtMost.l0 k l n (wrap64 (i + 1))
end
def impl_needsAtMost.f (k : Nat) (l0 : List (S62)) (a1 : Int) : Option Bool := impl_needsAtMost.l0 k l0 a1 0
/-! impl_isSystem -/
def impl_isSystem.l0 : Nat → List (List (S62)) → List (List (S62)) → Int → Int → Option (Bool)
  | 0, _, _, _, _ => none
  | k + 1, x0, x5, x6, x7 => if x7 < x6 then (if 0 ≤ x7 then (if x7 < (x5.length : Int) then ((impl_isPoly.f k (rd_L4 x5 x7)).bind fun t635 => (if t635 = true then ((impl_needsAtMost.f k (rd_L4 x5 x7) (x0.length : Int)).bind fun t636 => (if t636 = true then (impl_isSystem.l0 k x0 x5 x6 (wrap64 (x7 + 1))) else (some false))) else (some false))) else (none)) else (none)) else ((impl_inside.f (x0.length : Int) 1 3).bind fun t633 => (some t633))
def impl_isSystem.f (k : Nat) (l0 : List (List (S62))) : Option (Bool) := impl_isSystem.l0 k l0 l0 (l0.length : Int) 0
/-! impl_IsSystem -/
def impl_IsSystem.f (k : Nat) (l0 : List (List (S62))) : Option (Bool) := (impl_isSystem.f k l0).bind fun t637 => (some t637)
/-! spec_poSystem -/
mutual
def spec_poSystem.l0 : Nat → List (List (S62)) → List (List (S62)) → Int → Int → Option (Bool)
  | 0, _, _, _, _ => none
  | k + 1, x0, x6, x7, x8 => if x8 < x7 then (if 0 ≤ x8 then (if x8 < (x6.length : Int) then ((spec_poGood.f k (rd_L4 x6 x8)).bind fun t640 => (if t640 = true then (spec_poSystem.l1 k x0 (rd_L4 x6 x8) (x0.length : Int) x6 x7 x8) else (some false))) else (none)) else (none)) else ((spec_l1In.f (x0.length : Int) 1 3).bind fun t638 => (some t638))
def spec_poSystem.l1 : Nat → List (List (S62)) → List (S62) → Int → List (List (S62)) → Int → Int → Option (Bool)
  | 0, _, _, _, _, _, _ => none
  | k + 1, x0, x4, x5, x6, x7, x8 => if x5 < 3 then ((spec_poDegreeIn.f k x4 x5).bind fun t641 => (if t641 > 0 then (some false) else (spec_poSystem.l1 k x0 x4 (wrap64 (x5 + 1)) x6 x7 x8))) else (spec_poSystem.l0 k x0 x6 x7 (wrap64 (x8 + 1)))
end
def spec_poSystem.f (k : Nat) (l0 : List (List (S62))) : Option (Bool) := spec_poSystem.l0 k l0 l0 (l0.length : Int) 0
/-! spec_IsSystem -/
def spec_IsSystem.f (k : Nat) (l0 : List (List (S62))) : Option (Bool) := (spec_poSystem.f k l0).bind fun t642 => (some t642)
/-! laws_FnUnknowns -/
-- HAND rounds=1 making=1
abbrev laws_FnUnknowns.same (K : Nat) (l r : List S62) : Prop := laws_pSameTerms.f K l r = some true
def laws_FnUnknowns.bkn (o : List Int) : Nat → List Int
  | 0 => [0, 0, 0]
  | n + 1 => (laws_FnUnknowns.bkn o n).set (rd o (n : Int)).toNat (n : Int)
/-- What is drawn and what the two sides make of it. -/
def laws_FnUnknowns.part1 (K : Nat) (l0 : List Int) (p e : List S62) (o : List Int) (b1 : Bool) : Prop := spec_DrawExchangeUnknowns.f K l0 = some (p, o) ∧ impl_ExchangeUnknowns.f K p o = some (e, b1) ∧ spec_ExchangeUnknowns.f K p o = some (e, b1) ∧ laws_FnUnknowns.same K e e
def laws_FnUnknowns.part2 (K : Nat) (p e : List S62) (o : List Int) (d : Int) (b1 : Bool) : Prop := b1 = true → ((o.length = 3 ∧ ∀ j : Int, 0 ≤ j → j < 3 → 0 ≤ rd o j ∧ rd o j < 3) ∧ impl_ExchangeUnknowns.f K e (laws_FnUnknowns.bkn o 3) = some (p, true) ∧ laws_FnUnknowns.same K p p ∧ impl_DegreeOf.f K e = some (d, true) ∧ spec_DegreeOf.f K p = some (d, true))
def laws_FnUnknowns.part3 (K : Nat) (l1 : List Int) (q t : List S62) (u n : Int) (b2 : Bool) : Prop := spec_DrawPutInteger.f K l1 = some (q, u, n) ∧ impl_PutInteger.f K q u n = some (t, b2) ∧ spec_PutInteger.f K q u n = some (t, b2) ∧ laws_FnUnknowns.same K t t
def laws_FnUnknowns.part4 (K : Nat) (t : List S62) (us : List Int) (u d : Int) (b2 : Bool) : Prop := b2 = true → (impl_DegreeIn.f K t u = some (d, true) ∧ d ≤ 0 ∧ impl_UnknownsOf.f K t = some (us, true) ∧ spec_UnknownsOf.f K t = some (us, true) ∧ laws_sameInts.f K us us = some true ∧ laws_pIn.f K us u = some false)
def laws_FnUnknowns.part5 (K : Nat) (l1 : List Int) (v : List S62) (k d : Int) (b3 : Bool) : Prop := spec_DrawDegreeIn.f K l1 = some (v, k) ∧ impl_DegreeIn.f K v k = some (d, b3) ∧ spec_DegreeIn.f K v k = some (d, b3)
def laws_FnUnknowns.part6 (K : Nat) (l1 : List Int) (w : List S62) (m : Int) (b4 : Bool) : Prop := spec_DrawDegreeOf.f K l1 = some w ∧ impl_DegreeOf.f K w = some (m, b4) ∧ spec_DegreeOf.f K w = some (m, b4) ∧ impl_IsPoly.f K w = some b4 ∧ (b4 = true → -1 ≤ m ∧ m ≤ 4 ∧ (m = -1 ↔ w.length = 0))
def laws_FnUnknowns.part7 (K : Nat) (l1 : List Int) (s : List (List S62)) (b5 : Bool) : Prop := spec_DrawIsSystem.f K l1 = some s ∧ impl_IsSystem.f K s = some b5 ∧ spec_IsSystem.f K s = some b5
def laws_FnUnknowns.ok (K : Nat) (l0 l1 : List Int) (r : Bool) : Prop := r = true ∧ (laws_big.f l0 l1 = some true ∨ (laws_big.f l0 l1 = some false ∧ ∃ (p e q t v z : List S62) (o us : List Int) (s : List (List S62)) (d u n d2 k d3 m : Int) (b1 b2 b3 b4 b5 : Bool), laws_FnUnknowns.part1 K l0 p e o b1 ∧ laws_FnUnknowns.part2 K p e o d b1 ∧ laws_FnUnknowns.part3 K l1 q t u n b2 ∧ laws_FnUnknowns.part4 K t us u d2 b2 ∧ laws_FnUnknowns.part5 K l1 v k d3 b3 ∧ laws_FnUnknowns.part6 K l1 z m b4 ∧ laws_FnUnknowns.part7 K l1 s b5))
/-- A state of type 51 at block g of W; what its slices lead to came in by w0. -/
def IsS51 (w0 W : World) (g : Nat) (f0 : List Int) (f1 : Int) (f2 : Int) : Prop := ∃ A0 c0, W.heap[g]? = some (.cells #[.slice A0 f0.length c0, .int .i64 f1, .int .u64 f2] 51 (0, 0)) ∧ w0.heap.size ≤ g ∧ Kd.C (Kd.int .u8) w0 A0 f0.length f0
theorem IsS51.grown {w0 W : World} {g : Nat} {f0 : List Int} {f1 : Int} {f2 : Int} {W1 : World} {row : Option Nat} (h : IsS51 w0 W g f0 f1 f2) (hw : W.grownBy W1 row) (hne : some g ≠ row) : IsS51 w0 W1 g f0 f1 f2 := by
  obtain ⟨A0, c0, hb, hg, hr0⟩ := h
  exact ⟨A0, c0, blk_grown hb hw hne, hg, hr0⟩
theorem IsS51.kept {w0 W : World} {g : Nat} {f0 : List Int} {f1 : Int} {f2 : Int} {W1 : World} {S : Nat → Prop} (h : IsS51 w0 W g f0 f1 f2) (hk : Kept W W1 S) (hne : ¬ S g) : IsS51 w0 W1 g f0 f1 f2 := by
  obtain ⟨A0, c0, hb, hg, hr0⟩ := h
  exact ⟨A0, c0, blk_kept hb hk hne, hg, hr0⟩
theorem IsS51.below {w0 W : World} {g : Nat} {f0 : List Int} {f1 : Int} {f2 : Int} {W1 : World} (h : IsS51 w0 W g f0 f1 f2) (hw : Below W.heap.size W W1) : IsS51 w0 W1 g f0 f1 f2 := h.grown (grown_of_below hw none) (by simp)
theorem IsS51.alloc {w0 W : World} {g : Nat} {f0 : List Int} {f1 : Int} {f2 : Int} (h : IsS51 w0 W g f0 f1 f2) (o : Obj) : IsS51 w0 (W.alloc o) g f0 f1 f2 := h.below (below_alloc (Below.refl _ _) o)
theorem IsS51.drewN {w0 W : World} {g : Nat} {f0 : List Int} {f1 : Int} {f2 : Int} (h : IsS51 w0 W g f0 f1 f2) (m : Nat) : IsS51 w0 (W.drewN m) g f0 f1 f2 := h
theorem IsS51.drew {w0 W : World} {g : Nat} {f0 : List Int} {f1 : Int} {f2 : Int} (h : IsS51 w0 W g f0 f1 f2) : IsS51 w0 W.drew g f0 f1 f2 := h
theorem IsS51.at_ {w0 W : World} {g : Nat} {f0 : List Int} {f1 : Int} {f2 : Int} {w' : World} {m : Nat} (hq : W.drewN m = w') (h : IsS51 w0 W g f0 f1 f2) : IsS51 w0 w' g f0 f1 f2 := by subst hq; exact IsS51.drewN h m
theorem IsS51.apart {w0 W : World} {g : Nat} {f0 : List Int} {f1 : Int} {f2 : Int} {α : Type} {d : Kd α} {e : Nat} {base : Nat} {ok : Nat → Prop} {v : Value} {xs : List α} (h : IsS51 w0 W g f0 f1 f2) (ho : d.R e W base ok v xs) (ht : ∀ q, q ∈ e :: d.E → q ≠ 51) : d.R e W base (fun k => ok k ∧ k ≠ g) v xs := by
  obtain ⟨A0, c0, hb, hg, hr0⟩ := h
  exact Kd.R_types ho hb ht
theorem IsS51.own_ne {w0 W : World} {g : Nat} {f0 : List Int} {f1 : Int} {f2 : Int} {α : Type} {d : Kd α} {e : Nat} {base : Nat} {ok : Nat → Prop} {v : Value} {xs : List α} (h : IsS51 w0 W g f0 f1 f2) (ho : d.R e W base ok v xs) (ht : e ≠ 51) : some g ≠ v.ownBlock := by
  obtain ⟨A0, c0, hb, hg, hr0⟩ := h
  exact Kd.R_ne ho hb ht
theorem IsS51.apartS {w0 W : World} {g : Nat} {f0 : List Int} {f1 : Int} {f2 : Int} {α : Type} {d : Kd α} {e : Nat} {base : Nat} {ok : Nat → Prop} {v : Value} {xs : List α} (h : IsS51 w0 W g f0 f1 f2) (ho : d.S e W base ok v xs) (ht : ∀ q, q ∈ e :: d.E → q ≠ 51) : d.S e W base (fun k => ok k ∧ k ≠ g) v xs := by
  obtain ⟨A0, c0, hb, hg, hr0⟩ := h
  exact Kd.S_types ho hb ht
theorem IsS51.own_neS {w0 W : World} {g : Nat} {f0 : List Int} {f1 : Int} {f2 : Int} {α : Type} {d : Kd α} {e : Nat} {base : Nat} {ok : Nat → Prop} {v : Value} {xs : List α} (h : IsS51 w0 W g f0 f1 f2) (ho : d.S e W base ok v xs) (ht : e ≠ 51) : some g ≠ v.ownBlock := by
  obtain ⟨A0, c0, hb, hg, hr0⟩ := h
  exact Kd.S_ne ho hb ht
theorem IsS51.lt {w0 W : World} {g : Nat} {f0 : List Int} {f1 : Int} {f2 : Int} (h : IsS51 w0 W g f0 f1 f2) : g < W.heap.size := by
  obtain ⟨A0, c0, hb, hg, hr0⟩ := h
  exact blk_lt hb
theorem IsS51.ge {w0 W : World} {g : Nat} {f0 : List Int} {f1 : Int} {f2 : Int} (h : IsS51 w0 W g f0 f1 f2) : w0.heap.size ≤ g := by
  obtain ⟨A0, c0, hb, hg, hr0⟩ := h
  exact hg
theorem IsS51.far {w0 W : World} {g : Nat} {f0 : List Int} {f1 : Int} {f2 : Int} {p : Addr} (h : IsS51 w0 W g f0 f1 f2) (hne : g ≠ p.block) (u : Value) : IsS51 w0 (W.setCell p u) g f0 f1 f2 := by
  obtain ⟨A0, c0, hb, hg, hr0⟩ := h
  exact ⟨A0, c0, blk_far hb hne u, hg, hr0⟩
theorem cellS51_0 {W : World} {g : Nat} {A0 : Option Addr} {c0 : Nat} {f0 : List Int} {f1 : Int} {f2 : Int} (h : W.heap[g]? = some (.cells #[.slice A0 f0.length c0, .int .i64 f1, .int .u64 f2] 51 (0, 0))) : W.cell? ⟨g, 0, none⟩ = some (.slice A0 f0.length c0) := (blk_cell h 0).trans rfl
theorem cellS51_1 {W : World} {g : Nat} {A0 : Option Addr} {c0 : Nat} {f0 : List Int} {f1 : Int} {f2 : Int} (h : W.heap[g]? = some (.cells #[.slice A0 f0.length c0, .int .i64 f1, .int .u64 f2] 51 (0, 0))) : W.cell? ⟨g, 1, none⟩ = some (.int .i64 f1) := (blk_cell h 1).trans rfl
theorem IsS51.set_1 {w0 W : World} {g : Nat} {f0 : List Int} {f1 : Int} {f2 : Int} (h : IsS51 w0 W g f0 f1 f2) (x : Int) : IsS51 w0 (W.setCell ⟨g, 1, none⟩ (.int .i64 x)) g f0 x f2 := by
  obtain ⟨A0, c0, hb, hg, hr0⟩ := h
  exact ⟨A0, c0, by simpa using blk_set hb 1 (.int .i64 x), hg, hr0⟩
theorem cellS51_2 {W : World} {g : Nat} {A0 : Option Addr} {c0 : Nat} {f0 : List Int} {f1 : Int} {f2 : Int} (h : W.heap[g]? = some (.cells #[.slice A0 f0.length c0, .int .i64 f1, .int .u64 f2] 51 (0, 0))) : W.cell? ⟨g, 2, none⟩ = some (.int .u64 f2) := (blk_cell h 2).trans rfl
theorem IsS51.set_2 {w0 W : World} {g : Nat} {f0 : List Int} {f1 : Int} {f2 : Int} (h : IsS51 w0 W g f0 f1 f2) (x : Int) : IsS51 w0 (W.setCell ⟨g, 2, none⟩ (.int .u64 x)) g f0 f1 x := by
  obtain ⟨A0, c0, hb, hg, hr0⟩ := h
  exact ⟨A0, c0, by simpa using blk_set hb 2 (.int .u64 x), hg, hr0⟩
theorem IsS51.new (w0 W : World) (A0 : Option Addr) (c0 : Nat) (f0 : List Int) (f1 : Int) (f2 : Int) (hB : Below w0.heap.size w0 W) (hr0 : Kd.C (Kd.int .u8) w0 A0 f0.length f0) : IsS51 w0 (W.alloc (.cells #[.slice A0 f0.length c0, .int .i64 f1, .int .u64 f2] 51)) W.heap.size f0 f1 f2 := ⟨A0, c0, by simpa using heap_alloc_new W _, hB.size, hr0⟩
/-! ### laws_big: function 4 -/
set_option maxHeartbeats 8000000 in
set_option maxRecDepth 100000 in
theorem laws_big.calls (A0 : Option Addr) (c0 : Nat) (l0 : List Int) (A1 : Option Addr) (c1 : Nat) (l1 : List Int) (r : Bool) (w : World) (hr0 : Kd.C (Kd.int .u8) w A0 l0.length l0) (hc0 : l0.length ≤ c0) (hr1 : Kd.C (Kd.int .u8) w A1 l1.length l1) (hc1 : l1.length ≤ c1) (h : laws_big.f l0 l1 = some r) :
  Calls Tryz.prog 4 #[.slice A0 l0.length c0, .slice A1 l1.length c1] w fun e w' => e = .returned (.bool r) ∧ Drawn0 w w' := by
 have HR0 := qa hr0
 have HC0 := qa hc0
 clear hr0 hc0
 have HR1 := qa hr1
 have HC1 := qa hc1
 clear hr1 hc1
 have H : (if (l0.length : Int) > 1048576 then (some true) else (some (decide ((l1.length : Int) > (wrap64 (1048576 - (l0.length : Int))))))) = some r := h
 clear h
 by_cases c3 : (l0.length : Int) > 1048576
 ·
  rw [if_pos c3] at H
  have c3b0 := decide_eq_true c3
  have c3b1 : decide (1048576 < l0.length) = true := decide_eq_true (by omega)
  clear c3
  obtain rfl := Option.some.inj H
  go_enter Tryz.func4, Tryz.ntmps4
  go_wp2
  go_ret
  exact ⟨qf, by repeat (first | exact Drawn0.refl _ | apply Drawn0.step)⟩
 ·
  rw [if_neg c3] at H
  have c3b0 := decide_eq_false c3
  have c3b1 : decide (1048576 < l0.length) = false := decide_eq_false (by omega)
  clear c3
  obtain rfl := Option.some.inj H
  go_enter Tryz.func4, Tryz.ntmps4
  go_wp2
  go_ret
  exact ⟨qf, by repeat (first | exact Drawn0.refl _ | apply Drawn0.step)⟩
/-! ### spec_l1Cur_next: function 62 -/
theorem z62_0 {P Q : Prop} (h : Aside0 (Q)) (f : Q → P := by intro h_; repeat (first | (with_reducible first | exact h_ | apply IsS51.alloc | apply IsS51.drewN | apply IsS51.drew | apply IsS51.set_1 | apply IsS51.set_2) | exact h_)) : P := f h.out
theorem z62_1 {w W0 W1 : World} {B : Nat} (h : Aside0 (Below B w W0)) (f : Below B w W0 → Below B w W1 := by intro h_; repeat (first | (with_reducible first | exact h_ | apply below_alloc | apply pw_below_drewN | apply below_drew1 | refine below_set ?_ (IsS51.ge (Aside0.out (by assumption)))) | exact h_)) : Below B w W1 := f h.out
theorem z62_2 {w W0 W1 : World} {g : Nat} {row : Option Nat} (h : Aside0 (KeepBut w W0 g row)) (f : KeepBut w W0 g row → KeepBut w W1 g row := by intro h_; repeat (first | (with_reducible first | exact h_ | apply KeepBut.set_ | apply keep_drewN | apply keep_drew | apply keep_alloc) | exact h_)) : KeepBut w W1 g row := f h.out
set_option maxHeartbeats 8000000 in
set_option maxRecDepth 100000 in
theorem spec_l1Cur_next.calls (g : Nat) (s0_0 : List Int) (s0_1 : Int) (s0_2 : Int) (r1 : Int) (r2 : Int) (r3 : Int) (w0 w : World) (hI : IsS51 w0 w g s0_0 s0_1 s0_2) (hB : Below w0.heap.size w0 w) (h : spec_l1Cur_next.f s0_0 s0_1 s0_2 = some (r1, r2, r3)) :
  Calls Tryz.prog 62 #[.pointer (some ⟨g, 0, none⟩)] w fun e w' => e = .returned (.int .i64 r1) ∧ IsS51 w0 w' g s0_0 r2 r3 ∧ Below w0.heap.size w0 w' ∧ KeepBut w w' g none := by
 have HI0 := qa hI
 have HK := qa (KeepBut.refl w g none)
 have HL := qa hB.size
 clear hI
 have HW0 := qa hB.size
 have HB := qa hB
 clear hB
 have H : (if s0_1 < (s0_0.length : Int) then (if 0 ≤ s0_1 then (if (wrap64 (s0_1 + 1)) ≤ (s0_0.length : Int) then (some (wrap64 (rd s0_0 s0_1), wrap64 (s0_1 + 1), IntKind.u64.wrap ((IntKind.u64.wrap ((IntKind.u64.wrap (s0_2 * 6364136223846793005)) + (IntKind.u64.wrap (wrap64 (rd s0_0 s0_1))))) + 1442695040888963407))) else (some (wrap64 (Go.bits .and .u64 ((IntKind.u64.wrap ((IntKind.u64.wrap ((IntKind.u64.wrap (s0_2 * 6364136223846793005)) + (IntKind.u64.wrap (wrap64 (rd s0_0 s0_1))))) + 1442695040888963407)) / 1099511627776) 255), wrap64 (s0_1 + 1), IntKind.u64.wrap ((IntKind.u64.wrap ((IntKind.u64.wrap (s0_2 * 6364136223846793005)) + (IntKind.u64.wrap (wrap64 (rd s0_0 s0_1))))) + 1442695040888963407)))) else (none)) else (if (wrap64 (s0_1 + 1)) ≤ (s0_0.length : Int) then (some (0, wrap64 (s0_1 + 1), IntKind.u64.wrap ((IntKind.u64.wrap (IntKind.u64.wrap (s0_2 * 6364136223846793005))) + 1442695040888963407))) else (some (wrap64 (Go.bits .and .u64 ((IntKind.u64.wrap ((IntKind.u64.wrap (IntKind.u64.wrap (s0_2 * 6364136223846793005))) + 1442695040888963407)) / 1099511627776) 255), wrap64 (s0_1 + 1), IntKind.u64.wrap ((IntKind.u64.wrap (IntKind.u64.wrap (s0_2 * 6364136223846793005))) + 1442695040888963407))))) = some (r1, r2, r3) := h
 clear h
 by_cases c2 : s0_1 < (s0_0.length : Int)
 ·
  rw [if_pos c2] at H
  have c2b0 := decide_eq_true c2
  clear c2
  by_cases c3 : 0 ≤ s0_1
  ·
   rw [if_pos c3] at H
   have c3b0 := decide_eq_true c3
   clear c3
   by_cases c4 : (wrap64 (s0_1 + 1)) ≤ (s0_0.length : Int)
   ·
    rw [if_pos c4] at H
    have c4b0 := decide_eq_true c4
    clear c4
    simp only [Option.some.injEq, Prod.mk.injEq] at H
    obtain ⟨rfl, rfl, rfl⟩ := H
    obtain ⟨ASz5_0, cSz5_0, HGz5, hgz5, HSz5_0⟩ := HI0.out
    have hcz5_0 := cellS51_0 HGz5
    have hcz5_1 := cellS51_1 HGz5
    have hcz5_2 := cellS51_2 HGz5
    have hfz5_1 := blk_frozen HGz5 1
    have hfz5_2 := blk_frozen HGz5 2
    clear HGz5 hgz5
    have p101 : 0 ≤ (s0_1 : Int) := qd
    have q101 : s0_1 < (s0_0.length : Int) := qd
    obtain ⟨ad101, e101, hx101_0⟩ := Kd.at_int HSz5_0 s0_1 p101 q101
    cases e101
    replace hx101_0 := qb HB hx101_0
    replace p101 := eq_true p101
    replace q101 := eq_true q101
    go_enter Tryz.func62, Tryz.ntmps62
    go_wp2
    repeat (go_quiet (fail); try go_wp2)
    go_ret
    exact ⟨by first | rfl | (simp [errW_none, errW_some] <;> rfl) | (simp [*, errW_none, errW_some] <;> rfl), (z62_0 HI0), (z62_1 HB), (z62_2 HK)⟩
   ·
    rw [if_neg c4] at H
    have c4b0 := decide_eq_false c4
    clear c4
    simp only [Option.some.injEq, Prod.mk.injEq] at H
    obtain ⟨rfl, rfl, rfl⟩ := H
    obtain ⟨ASz6_0, cSz6_0, HGz6, hgz6, HSz6_0⟩ := HI0.out
    have hcz6_0 := cellS51_0 HGz6
    have hcz6_1 := cellS51_1 HGz6
    have hcz6_2 := cellS51_2 HGz6
    have hfz6_1 := blk_frozen HGz6 1
    have hfz6_2 := blk_frozen HGz6 2
    clear HGz6 hgz6
    have p101 : 0 ≤ (s0_1 : Int) := qd
    have q101 : s0_1 < (s0_0.length : Int) := qd
    obtain ⟨ad101, e101, hx101_0⟩ := Kd.at_int HSz6_0 s0_1 p101 q101
    cases e101
    replace hx101_0 := qb HB hx101_0
    replace p101 := eq_true p101
    replace q101 := eq_true q101
    go_enter Tryz.func62, Tryz.ntmps62
    go_wp2
    repeat (go_quiet (fail); try go_wp2)
    go_ret
    exact ⟨by first | rfl | (simp [errW_none, errW_some] <;> rfl) | (simp [*, errW_none, errW_some] <;> rfl), (z62_0 HI0), (z62_1 HB), (z62_2 HK)⟩
  ·
   rw [if_neg c3] at H
   exact absurd H (by simp)
 ·
  rw [if_neg c2] at H
  have c2b0 := decide_eq_false c2
  clear c2
  by_cases c7 : (wrap64 (s0_1 + 1)) ≤ (s0_0.length : Int)
  ·
   rw [if_pos c7] at H
   have c7b0 := decide_eq_true c7
   clear c7
   simp only [Option.some.injEq, Prod.mk.injEq] at H
   obtain ⟨rfl, rfl, rfl⟩ := H
   obtain ⟨ASz8_0, cSz8_0, HGz8, hgz8, HSz8_0⟩ := HI0.out
   have hcz8_0 := cellS51_0 HGz8
   have hcz8_1 := cellS51_1 HGz8
   have hcz8_2 := cellS51_2 HGz8
   have hfz8_1 := blk_frozen HGz8 1
   have hfz8_2 := blk_frozen HGz8 2
   clear HGz8 hgz8
   go_enter Tryz.func62, Tryz.ntmps62
   go_wp2
   repeat (go_quiet (fail); try go_wp2)
   go_ret
   exact ⟨by first | rfl | (simp [errW_none, errW_some] <;> rfl) | (simp [*, errW_none, errW_some] <;> rfl), (z62_0 HI0), (z62_1 HB), (z62_2 HK)⟩
  ·
   rw [if_neg c7] at H
   have c7b0 := decide_eq_false c7
   clear c7
   simp only [Option.some.injEq, Prod.mk.injEq] at H
   obtain ⟨rfl, rfl, rfl⟩ := H
   obtain ⟨ASz9_0, cSz9_0, HGz9, hgz9, HSz9_0⟩ := HI0.out
   have hcz9_0 := cellS51_0 HGz9
   have hcz9_1 := cellS51_1 HGz9
   have hcz9_2 := cellS51_2 HGz9
   have hfz9_1 := blk_frozen HGz9 1
   have hfz9_2 := blk_frozen HGz9 2
   clear HGz9 hgz9
   go_enter Tryz.func62, Tryz.ntmps62
   go_wp2
   repeat (go_quiet (fail); try go_wp2)
   go_ret
   exact ⟨by first | rfl | (simp [errW_none, errW_some] <;> rfl) | (simp [*, errW_none, errW_some] <;> rfl), (z62_0 HI0), (z62_1 HB), (z62_2 HK)⟩
/-! ### spec_l1Cur_pick: function 27 -/
theorem z27_0 {P Q : Prop} (h : Aside0 (Q)) (f : Q → P := by intro h_; repeat (first | (with_reducible first | exact h_ | apply IsS51.alloc | apply IsS51.drewN | apply IsS51.drew | apply IsS51.set_1 | apply IsS51.set_2) | exact h_)) : P := f h.out
theorem z27_1 {w W0 W1 : World} {B : Nat} (h : Aside0 (Below B w W0)) (f : Below B w W0 → Below B w W1 := by intro h_; repeat (first | (with_reducible first | exact h_ | apply below_alloc | apply pw_below_drewN | apply below_drew1 | refine below_set ?_ (IsS51.ge (Aside0.out (by assumption)))) | exact h_)) : Below B w W1 := f h.out
theorem z27_2 {w W0 W1 : World} {g : Nat} {row : Option Nat} (h : Aside0 (KeepBut w W0 g row)) (f : KeepBut w W0 g row → KeepBut w W1 g row := by intro h_; repeat (first | (with_reducible first | exact h_ | apply KeepBut.set_ | apply keep_drewN | apply keep_drew | apply keep_alloc) | exact h_)) : KeepBut w W1 g row := f h.out
set_option maxHeartbeats 8000000 in
set_option maxRecDepth 100000 in
theorem spec_l1Cur_pick.calls (g : Nat) (s0_0 : List Int) (s0_1 : Int) (s0_2 : Int) (a1 : Int) (r1 : Int) (r2 : Int) (r3 : Int) (w0 w : World) (hI : IsS51 w0 w g s0_0 s0_1 s0_2) (hB : Below w0.heap.size w0 w) (h : spec_l1Cur_pick.f s0_0 s0_1 s0_2 a1 = some (r1, r2, r3)) :
  Calls Tryz.prog 27 #[.pointer (some ⟨g, 0, none⟩), .int .i64 a1] w fun e w' => e = .returned (.int .i64 r1) ∧ IsS51 w0 w' g s0_0 r2 r3 ∧ Below w0.heap.size w0 w' ∧ KeepBut w w' g none := by
 have HI0 := qa hI
 have HK := qa (KeepBut.refl w g none)
 have HL := qa hB.size
 clear hI
 have HW0 := qa hB.size
 have HB := qa hB
 clear hB
 have H : (if a1 ≤ 1 then (some (0, s0_1, s0_2)) else ((spec_l1Cur_next.f s0_0 s0_1 s0_2).bind fun bt102 => (if a1 > 200 then ((spec_l1Cur_next.f s0_0 bt102.2.1 bt102.2.2).bind fun bt105 => (if a1 = 0 then (none) else (some (Int.tmod (wrap64 ((wrap64 (bt102.1 * 256)) + bt105.1)) a1, bt105.2.1, bt105.2.2)))) else (if a1 = 0 then (none) else (some (Int.tmod bt102.1 a1, bt102.2.1, bt102.2.2)))))) = some (r1, r2, r3) := h
 clear h
 by_cases c3 : a1 ≤ 1
 ·
  rw [if_pos c3] at H
  have c3b0 := decide_eq_true c3
  clear c3
  simp only [Option.some.injEq, Prod.mk.injEq] at H
  obtain ⟨rfl, rfl, rfl⟩ := H
  go_enter Tryz.func27, Tryz.ntmps27
  go_wp2
  go_ret
  exact ⟨by first | rfl | (simp [errW_none, errW_some] <;> rfl) | (simp [*, errW_none, errW_some] <;> rfl), (z27_0 HI0), (z27_1 HB), (z27_2 HK)⟩
 ·
  rw [if_neg c3] at H
  have c3b0 := decide_eq_false c3
  clear c3
  replace H := qo H
  obtain ⟨⟨t102, t103, t104⟩, A4, H⟩ := H
  replace H : (if a1 > 200 then ((spec_l1Cur_next.f s0_0 t103 t104).bind fun bt105 => (if a1 = 0 then (none) else (some (Int.tmod (wrap64 ((wrap64 (t102 * 256)) + bt105.1)) a1, bt105.2.1, bt105.2.2)))) else (if a1 = 0 then (none) else (some (Int.tmod t102 a1, t103, t104)))) = some (r1, r2, r3) := H
  by_cases c5 : a1 > 200
  ·
   rw [if_pos c5] at H
   have c5b0 := decide_eq_true c5
   clear c5
   replace H := qo H
   obtain ⟨⟨t105, t106, t107⟩, A6, H⟩ := H
   replace H : (if a1 = 0 then (none) else (some (Int.tmod (wrap64 ((wrap64 (t102 * 256)) + t105)) a1, t106, t107))) = some (r1, r2, r3) := H
   by_cases c7 : a1 = 0
   ·
    rw [if_pos c7] at H
    exact absurd H (by simp)
   ·
    rw [if_neg c7] at H
    have c7b0 : (a1 == 0) = false := beq_eq_false_iff_ne.mpr c7
    have c7b1 : (a1 != 0) = true := bne_iff_ne.mpr c7
    simp only [Option.some.injEq, Prod.mk.injEq] at H
    obtain ⟨rfl, rfl, rfl⟩ := H
    go_enter Tryz.func27, Tryz.ntmps27
    go_wp2_with (first | ((with_reducible refine gate_callee (f := 62) rfl ?_); refine qg 9 Tryz.func62 #[.pointer (some ⟨g, 0, none⟩)] ?_; (with_reducible refine (spec_l1Cur_next.calls g s0_0 s0_1 s0_2 t102 t103 t104 w0 _ ?side1 ?side2 A4.out).mono ?_); (case side1 => exact z27_0 HI0); (case side2 => exact z27_1 HB); rintro e w8 ⟨rfl, hi, hb, hk⟩; refine ⟨_, rfl, ?_⟩; replace HK := qa (KeepBut.trans (z27_2 HK) hk (.inl rfl)); replace HB := qa (hb); replace HI0 := qa (hi); (try clear hb); (try clear hb2); (try clear hk); (try clear hi)) | ((with_reducible refine gate_callee (f := 62) rfl ?_); refine qg 15 Tryz.func62 #[.pointer (some ⟨g, 0, none⟩)] ?_; (with_reducible refine (spec_l1Cur_next.calls g s0_0 t103 t104 t105 t106 t107 w0 _ ?side1 ?side2 A6.out).mono ?_); (case side1 => exact z27_0 HI0); (case side2 => exact z27_1 HB); rintro e w9 ⟨rfl, hi, hb, hk⟩; refine ⟨_, rfl, ?_⟩; replace HK := qa (KeepBut.trans (z27_2 HK) hk (.inl rfl)); replace HB := qa (hb); replace HI0 := qa (hi); (try clear hb); (try clear hb2); (try clear hk); (try clear hi)))
    go_ret
    exact ⟨by first | rfl | (simp [errW_none, errW_some] <;> rfl) | (simp [*, errW_none, errW_some] <;> rfl), (z27_0 HI0), (z27_1 HB), (z27_2 HK)⟩
  ·
   rw [if_neg c5] at H
   have c5b0 := decide_eq_false c5
   clear c5
   by_cases c10 : a1 = 0
   ·
    rw [if_pos c10] at H
    exact absurd H (by simp)
   ·
    rw [if_neg c10] at H
    have c10b0 : (a1 == 0) = false := beq_eq_false_iff_ne.mpr c10
    have c10b1 : (a1 != 0) = true := bne_iff_ne.mpr c10
    simp only [Option.some.injEq, Prod.mk.injEq] at H
    obtain ⟨rfl, rfl, rfl⟩ := H
    go_enter Tryz.func27, Tryz.ntmps27
    go_wp2_with (first | ((with_reducible refine gate_callee (f := 62) rfl ?_); refine qg 9 Tryz.func62 #[.pointer (some ⟨g, 0, none⟩)] ?_; (with_reducible refine (spec_l1Cur_next.calls g s0_0 s0_1 s0_2 t102 t103 t104 w0 _ ?side1 ?side2 A4.out).mono ?_); (case side1 => exact z27_0 HI0); (case side2 => exact z27_1 HB); rintro e w11 ⟨rfl, hi, hb, hk⟩; refine ⟨_, rfl, ?_⟩; replace HK := qa (KeepBut.trans (z27_2 HK) hk (.inl rfl)); replace HB := qa (hb); replace HI0 := qa (hi); (try clear hb); (try clear hb2); (try clear hk); (try clear hi)))
    go_ret
    exact ⟨by first | rfl | (simp [errW_none, errW_some] <;> rfl) | (simp [*, errW_none, errW_some] <;> rfl), (z27_0 HI0), (z27_1 HB), (z27_2 HK)⟩
/-! ### spec_l1Cur_among: function 45 -/
theorem z45_0 {P Q : Prop} (h : Aside0 (Q)) (f : Q → P := by intro h_; repeat (first | (with_reducible first | exact h_ | apply IsS51.alloc | apply IsS51.drewN | apply IsS51.drew | apply IsS51.set_1 | apply IsS51.set_2) | exact h_)) : P := f h.out
theorem z45_1 {w W0 W1 : World} {B : Nat} (h : Aside0 (Below B w W0)) (f : Below B w W0 → Below B w W1 := by intro h_; repeat (first | (with_reducible first | exact h_ | apply below_alloc | apply pw_below_drewN | apply below_drew1 | refine below_set ?_ (IsS51.ge (Aside0.out (by assumption)))) | exact h_)) : Below B w W1 := f h.out
theorem z45_2 {w W0 W1 : World} {g : Nat} {row : Option Nat} (h : Aside0 (KeepBut w W0 g row)) (f : KeepBut w W0 g row → KeepBut w W1 g row := by intro h_; repeat (first | (with_reducible first | exact h_ | apply KeepBut.set_ | apply keep_drewN | apply keep_drew | apply keep_alloc) | exact h_)) : KeepBut w W1 g row := f h.out
set_option maxHeartbeats 8000000 in
set_option maxRecDepth 100000 in
theorem spec_l1Cur_among.calls (g : Nat) (s0_0 : List Int) (s0_1 : Int) (s0_2 : Int) (A1 : Option Addr) (c1 : Nat) (l1 : List Int) (r1 : Int) (r2 : Int) (r3 : Int) (w0 w : World) (hI : IsS51 w0 w g s0_0 s0_1 s0_2) (hB : Below w0.heap.size w0 w) (hr1 : Kd.C (Kd.int .i64) w A1 l1.length l1) (hc1 : l1.length ≤ c1) (hf1 : ∀ ad, A1 = some ad → 0 < l1.length → ad.block ≠ g) (h : spec_l1Cur_among.f s0_0 s0_1 s0_2 l1 = some (r1, r2, r3)) :
  Calls Tryz.prog 45 #[.pointer (some ⟨g, 0, none⟩), .slice A1 l1.length c1] w fun e w' => e = .returned (.int .i64 r1) ∧ IsS51 w0 w' g s0_0 r2 r3 ∧ Below w0.heap.size w0 w' ∧ KeepBut w w' g none := by
 have HR1 := qa hr1
 have HC1 := qa hc1
 clear hr1 hc1
 have HI0 := qa hI
 have HK := qa (KeepBut.refl w g none)
 have HL := qa hB.size
 clear hI
 have HW0 := qa hB.size
 have HB := qa hB
 clear hB
 have H : ((spec_l1Cur_pick.f s0_0 s0_1 s0_2 (l1.length : Int)).bind fun bt108 => (if 0 ≤ bt108.1 then (if bt108.1 < (l1.length : Int) then (some (rd l1 bt108.1, bt108.2.1, bt108.2.2)) else (none)) else (none))) = some (r1, r2, r3) := h
 clear h
 replace H := qo H
 obtain ⟨⟨t108, t109, t110⟩, A3, H⟩ := H
 replace H : (if 0 ≤ t108 then (if t108 < (l1.length : Int) then (some (rd l1 t108, t109, t110)) else (none)) else (none)) = some (r1, r2, r3) := H
 by_cases c4 : 0 ≤ t108
 ·
  rw [if_pos c4] at H
  have c4b0 := decide_eq_true c4
  clear c4
  by_cases c5 : t108 < (l1.length : Int)
  ·
   rw [if_pos c5] at H
   have c5b0 := decide_eq_true c5
   clear c5
   simp only [Option.some.injEq, Prod.mk.injEq] at H
   obtain ⟨rfl, rfl, rfl⟩ := H
   go_enter Tryz.func45, Tryz.ntmps45
   go_wp2_with (first | ((with_reducible refine gate_callee (f := 27) rfl ?_); refine qg 9 Tryz.func27 #[.pointer (some ⟨g, 0, none⟩), .int .i64 (l1.length : Int)] ?_; (with_reducible refine (spec_l1Cur_pick.calls g s0_0 s0_1 s0_2 (l1.length : Int) t108 t109 t110 w0 _ ?side1 ?side2 A3.out).mono ?_); (case side1 => exact z45_0 HI0); (case side2 => exact z45_1 HB); rintro e w6 ⟨rfl, hi, hb, hk⟩; refine ⟨_, rfl, ?_⟩; replace HK := qa (KeepBut.trans (z45_2 HK) hk (.inl rfl)); replace HB := qa (hb); replace HI0 := qa (hi); (try clear hb); (try clear hb2); (try clear hk); (try clear hi); have p111 : 0 ≤ (t108 : Int) := qd; have q111 : t108 < (l1.length : Int) := qd; obtain ⟨ad111, e111, hx111_0⟩ := Kd.at_int HR1.out t108 p111 q111; cases e111; replace hx111_0 := keep_cell HK.out hx111_0 (by first | (rw [add_block]; exact hf1 _ rfl (by omega)) | exact hf1 _ rfl (by omega) | exact hf1 ad111 rfl (by omega)); replace p111 := eq_true p111; replace q111 := eq_true q111))
   go_ret
   exact ⟨by first | rfl | (simp [errW_none, errW_some] <;> rfl) | (simp [*, errW_none, errW_some] <;> rfl), (z45_0 HI0), (z45_1 HB), (z45_2 HK)⟩
  ·
   rw [if_neg c5] at H
   exact absurd H (by simp)
 ·
  rw [if_neg c4] at H
  exact absurd H (by simp)
/-! ### spec_l1Cur_one: function 28 -/
theorem z28_0 {P Q : Prop} (h : Aside0 (Q)) (f : Q → P := by intro h_; repeat (first | (with_reducible first | exact h_ | apply IsS51.alloc | apply IsS51.drewN | apply IsS51.drew | apply IsS51.set_1 | apply IsS51.set_2) | exact h_)) : P := f h.out
theorem z28_1 {w W0 W1 : World} {B : Nat} (h : Aside0 (Below B w W0)) (f : Below B w W0 → Below B w W1 := by intro h_; repeat (first | (with_reducible first | exact h_ | apply below_alloc | apply pw_below_drewN | apply below_drew1 | refine below_set ?_ (IsS51.ge (Aside0.out (by assumption)))) | exact h_)) : Below B w W1 := f h.out
theorem z28_2 {w W0 W1 : World} {g : Nat} {row : Option Nat} (h : Aside0 (KeepBut w W0 g row)) (f : KeepBut w W0 g row → KeepBut w W1 g row := by intro h_; repeat (first | (with_reducible first | exact h_ | apply KeepBut.set_ | apply keep_drewN | apply keep_drew | apply keep_alloc) | exact h_)) : KeepBut w W1 g row := f h.out
set_option maxHeartbeats 8000000 in
set_option maxRecDepth 100000 in
theorem spec_l1Cur_one.calls (g : Nat) (s0_0 : List Int) (s0_1 : Int) (s0_2 : Int) (a1 : Int) (r1 : Bool) (r2 : Int) (r3 : Int) (w0 w : World) (hI : IsS51 w0 w g s0_0 s0_1 s0_2) (hB : Below w0.heap.size w0 w) (h : spec_l1Cur_one.f s0_0 s0_1 s0_2 a1 = some (r1, r2, r3)) :
  Calls Tryz.prog 28 #[.pointer (some ⟨g, 0, none⟩), .int .i64 a1] w fun e w' => e = .returned (.bool r1) ∧ IsS51 w0 w' g s0_0 r2 r3 ∧ Below w0.heap.size w0 w' ∧ KeepBut w w' g none := by
 have HI0 := qa hI
 have HK := qa (KeepBut.refl w g none)
 have HL := qa hB.size
 clear hI
 have HW0 := qa hB.size
 have HB := qa hB
 clear hB
 have H : ((spec_l1Cur_pick.f s0_0 s0_1 s0_2 a1).bind fun bt112 => (some ((bt112.1 == 0), bt112.2.1, bt112.2.2))) = some (r1, r2, r3) := h
 clear h
 replace H := qo H
 obtain ⟨⟨t112, t113, t114⟩, A3, H⟩ := H
 replace H : (some ((t112 == 0), t113, t114)) = some (r1, r2, r3) := H
 simp only [Option.some.injEq, Prod.mk.injEq] at H
 obtain ⟨rfl, rfl, rfl⟩ := H
 go_enter Tryz.func28, Tryz.ntmps28
 go_wp2_with (first | ((with_reducible refine gate_callee (f := 27) rfl ?_); refine qg 7 Tryz.func27 #[.pointer (some ⟨g, 0, none⟩), .int .i64 a1] ?_; (with_reducible refine (spec_l1Cur_pick.calls g s0_0 s0_1 s0_2 a1 t112 t113 t114 w0 _ ?side1 ?side2 A3.out).mono ?_); (case side1 => exact z28_0 HI0); (case side2 => exact z28_1 HB); rintro e w4 ⟨rfl, hi, hb, hk⟩; refine ⟨_, rfl, ?_⟩; replace HK := qa (KeepBut.trans (z28_2 HK) hk (.inl rfl)); replace HB := qa (hb); replace HI0 := qa (hi); (try clear hb); (try clear hb2); (try clear hk); (try clear hi)))
 go_ret
 exact ⟨by first | rfl | (simp [errW_none, errW_some] <;> rfl) | (simp [*, errW_none, errW_some] <;> rfl), (z28_0 HI0), (z28_1 HB), (z28_2 HK)⟩
/-! ### spec_l1In: function 49 -/
set_option maxHeartbeats 8000000 in
set_option maxRecDepth 100000 in
theorem spec_l1In.calls (a0 : Int) (a1 : Int) (a2 : Int) (r : Bool) (w : World) (h : spec_l1In.f a0 a1 a2 = some r) :
  Calls Tryz.prog 49 #[.int .i64 a0, .int .i64 a1, .int .i64 a2] w fun e w' => e = .returned (.bool r) ∧ Drawn0 w w' := by
 have H : (if a0 ≥ a1 then (some (decide (a0 ≤ a2))) else (some false)) = some r := h
 clear h
 by_cases c4 : a0 ≥ a1
 ·
  rw [if_pos c4] at H
  have c4b0 := decide_eq_true c4
  clear c4
  obtain rfl := Option.some.inj H
  go_enter Tryz.func49, Tryz.ntmps49
  go_wp2
  go_ret
  exact ⟨qf, by repeat (first | exact Drawn0.refl _ | apply Drawn0.step)⟩
 ·
  rw [if_neg c4] at H
  have c4b0 := decide_eq_false c4
  clear c4
  obtain rfl := Option.some.inj H
  go_enter Tryz.func49, Tryz.ntmps49
  go_wp2
  go_ret
  exact ⟨qf, by repeat (first | exact Drawn0.refl _ | apply Drawn0.step)⟩
/-! ### spec_poTerm: function 72 -/
set_option maxHeartbeats 8000000 in
set_option maxRecDepth 100000 in
theorem spec_poTerm.calls (a0_0 : Int) (a0_1 : Int) (a0_2 : Int) (a0_3 : Int) (r : Bool) (w : World) (h : spec_poTerm.f a0_0 a0_1 a0_2 a0_3 = some r) :
  Calls Tryz.prog 72 #[.agg #[.int .i64 a0_0, .int .i64 a0_1, .int .i64 a0_2, .int .i64 a0_3]] w fun e w' => e = .returned (.bool r) ∧ Below w.heap.size w w' := by
 have hu62 := Tryz.underlying62
 have HB := qa (Below.refl w.heap.size w)
 have H : ((spec_l1In.f a0_0 (-1000) 1000).bind fun t116 => (if t116 = true then ((spec_l1In.f a0_1 0 4).bind fun t117 => (if t117 = true then ((spec_l1In.f a0_2 0 4).bind fun t118 => (if t118 = true then ((spec_l1In.f a0_3 0 4).bind fun t119 => (if t119 = true then (some (decide ((wrap64 ((wrap64 (a0_1 + a0_2)) + a0_3)) ≤ 4))) else (some false))) else (some false))) else (some false))) else (some false))) = some r := h
 clear h
 replace H := qo H
 obtain ⟨t116, A2, H⟩ := H
 replace H : (if t116 = true then ((spec_l1In.f a0_1 0 4).bind fun t117 => (if t117 = true then ((spec_l1In.f a0_2 0 4).bind fun t118 => (if t118 = true then ((spec_l1In.f a0_3 0 4).bind fun t119 => (if t119 = true then (some (decide ((wrap64 ((wrap64 (a0_1 + a0_2)) + a0_3)) ≤ 4))) else (some false))) else (some false))) else (some false))) else (some false)) = some r := H
 by_cases c3 : t116 = true
 ·
  subst c3
  have H1 : ((spec_l1In.f a0_1 0 4).bind fun t117 => (if t117 = true then ((spec_l1In.f a0_2 0 4).bind fun t118 => (if t118 = true then ((spec_l1In.f a0_3 0 4).bind fun t119 => (if t119 = true then (some (decide ((wrap64 ((wrap64 (a0_1 + a0_2)) + a0_3)) ≤ 4))) else (some false))) else (some false))) else (some false))) = some r := by rw [if_pos rfl] at H; exact H
  clear H
  have H := H1
  clear H1
  replace H := qo H
  obtain ⟨t117, A4, H⟩ := H
  replace H : (if t117 = true then ((spec_l1In.f a0_2 0 4).bind fun t118 => (if t118 = true then ((spec_l1In.f a0_3 0 4).bind fun t119 => (if t119 = true then (some (decide ((wrap64 ((wrap64 (a0_1 + a0_2)) + a0_3)) ≤ 4))) else (some false))) else (some false))) else (some false)) = some r := H
  by_cases c5 : t117 = true
  ·
   subst c5
   have H1 : ((spec_l1In.f a0_2 0 4).bind fun t118 => (if t118 = true then ((spec_l1In.f a0_3 0 4).bind fun t119 => (if t119 = true then (some (decide ((wrap64 ((wrap64 (a0_1 + a0_2)) + a0_3)) ≤ 4))) else (some false))) else (some false))) = some r := by rw [if_pos rfl] at H; exact H
   clear H
   have H := H1
   clear H1
   replace H := qo H
   obtain ⟨t118, A6, H⟩ := H
   replace H : (if t118 = true then ((spec_l1In.f a0_3 0 4).bind fun t119 => (if t119 = true then (some (decide ((wrap64 ((wrap64 (a0_1 + a0_2)) + a0_3)) ≤ 4))) else (some false))) else (some false)) = some r := H
   by_cases c7 : t118 = true
   ·
    subst c7
    have H1 : ((spec_l1In.f a0_3 0 4).bind fun t119 => (if t119 = true then (some (decide ((wrap64 ((wrap64 (a0_1 + a0_2)) + a0_3)) ≤ 4))) else (some false))) = some r := by rw [if_pos rfl] at H; exact H
    clear H
    have H := H1
    clear H1
    replace H := qo H
    obtain ⟨t119, A8, H⟩ := H
    replace H : (if t119 = true then (some (decide ((wrap64 ((wrap64 (a0_1 + a0_2)) + a0_3)) ≤ 4))) else (some false)) = some r := H
    by_cases c9 : t119 = true
    ·
     subst c9
     have H1 : (some (decide ((wrap64 ((wrap64 (a0_1 + a0_2)) + a0_3)) ≤ 4))) = some r := by rw [if_pos rfl] at H; exact H
     clear H
     have H := H1
     clear H1
     obtain rfl := Option.some.inj H
     go_enter Tryz.func72, Tryz.ntmps72
     go_wp2_with (first | ((with_reducible refine gate_dst (N := 1) rfl ?_); refine zbe (N := 1) (cs := #[.int .i64 a0_0, .int .i64 a0_1, .int .i64 a0_2, .int .i64 a0_3]) (t := 62) ?_; intro gb115 hg w10 hbox hb; have BK115 := qa (hbox); have GW115 := qa (zge (zb0 HB) hg); have GE115 := GW115; replace HB := qa (below_step (zb0 HB) hb); clear hb hbox hg; obtain ⟨hcz11_0, hcz11_1, hcz11_2, hcz11_3⟩ := qc4 BK115; obtain ⟨hfz11_0, hfz11_1, hfz11_2, hfz11_3⟩ := qz4 BK115) | ((with_reducible refine gate_callee (f := 49) rfl ?_); refine qg 5 Tryz.func49 #[.int .i64 a0_0, .int .i64 (-1000), .int .i64 1000] ?_; (with_reducible refine (spec_l1In.calls a0_0 (-1000) 1000 true _ A2.out).mono ?_); rintro e w' ⟨rfl, ⟨nd, rfl⟩⟩; refine ⟨_, rfl, ?_⟩) | (go_at_call 49; (with_reducible refine (spec_l1In.calls a0_1 0 4 true _ A4.out).mono ?_); rintro e w' ⟨rfl, ⟨nd, rfl⟩⟩) | (go_at_call 49; (with_reducible refine (spec_l1In.calls a0_2 0 4 true _ A6.out).mono ?_); rintro e w' ⟨rfl, ⟨nd, rfl⟩⟩) | (go_at_call 49; (with_reducible refine (spec_l1In.calls a0_3 0 4 true _ A8.out).mono ?_); rintro e w' ⟨rfl, ⟨nd, rfl⟩⟩))
     go_ret
     exact ⟨by first | rfl | (simp [errW_none, errW_some] <;> rfl) | (simp [*, errW_none, errW_some] <;> rfl), (zb1 HB)⟩
    ·
     replace c9 := Bool.eq_false_iff.mpr c9
     subst c9
     have H1 : (some false) = some r := by rw [if_neg (show ¬ (false = true) by decide)] at H; exact H
     clear H
     have H := H1
     clear H1
     obtain rfl := Option.some.inj H
     go_enter Tryz.func72, Tryz.ntmps72
     go_wp2_with (first | ((with_reducible refine gate_dst (N := 1) rfl ?_); refine zbe (N := 1) (cs := #[.int .i64 a0_0, .int .i64 a0_1, .int .i64 a0_2, .int .i64 a0_3]) (t := 62) ?_; intro gb115 hg w12 hbox hb; have BK115 := qa (hbox); have GW115 := qa (zge (zb0 HB) hg); have GE115 := GW115; replace HB := qa (below_step (zb0 HB) hb); clear hb hbox hg; obtain ⟨hcz13_0, hcz13_1, hcz13_2, hcz13_3⟩ := qc4 BK115; obtain ⟨hfz13_0, hfz13_1, hfz13_2, hfz13_3⟩ := qz4 BK115) | ((with_reducible refine gate_callee (f := 49) rfl ?_); refine qg 5 Tryz.func49 #[.int .i64 a0_0, .int .i64 (-1000), .int .i64 1000] ?_; (with_reducible refine (spec_l1In.calls a0_0 (-1000) 1000 true _ A2.out).mono ?_); rintro e w' ⟨rfl, ⟨nd, rfl⟩⟩; refine ⟨_, rfl, ?_⟩) | (go_at_call 49; (with_reducible refine (spec_l1In.calls a0_1 0 4 true _ A4.out).mono ?_); rintro e w' ⟨rfl, ⟨nd, rfl⟩⟩) | (go_at_call 49; (with_reducible refine (spec_l1In.calls a0_2 0 4 true _ A6.out).mono ?_); rintro e w' ⟨rfl, ⟨nd, rfl⟩⟩) | (go_at_call 49; (with_reducible refine (spec_l1In.calls a0_3 0 4 false _ A8.out).mono ?_); rintro e w' ⟨rfl, ⟨nd, rfl⟩⟩))
     go_ret
     exact ⟨by first | rfl | (simp [errW_none, errW_some] <;> rfl) | (simp [*, errW_none, errW_some] <;> rfl), (zb1 HB)⟩
   ·
    replace c7 := Bool.eq_false_iff.mpr c7
    subst c7
    have H1 : (some false) = some r := by rw [if_neg (show ¬ (false = true) by decide)] at H; exact H
    clear H
    have H := H1
    clear H1
    obtain rfl := Option.some.inj H
    go_enter Tryz.func72, Tryz.ntmps72
    go_wp2_with (first | ((with_reducible refine gate_dst (N := 1) rfl ?_); refine zbe (N := 1) (cs := #[.int .i64 a0_0, .int .i64 a0_1, .int .i64 a0_2, .int .i64 a0_3]) (t := 62) ?_; intro gb115 hg w14 hbox hb; have BK115 := qa (hbox); have GW115 := qa (zge (zb0 HB) hg); have GE115 := GW115; replace HB := qa (below_step (zb0 HB) hb); clear hb hbox hg; obtain ⟨hcz15_0, hcz15_1, hcz15_2, hcz15_3⟩ := qc4 BK115; obtain ⟨hfz15_0, hfz15_1, hfz15_2, hfz15_3⟩ := qz4 BK115) | ((with_reducible refine gate_callee (f := 49) rfl ?_); refine qg 5 Tryz.func49 #[.int .i64 a0_0, .int .i64 (-1000), .int .i64 1000] ?_; (with_reducible refine (spec_l1In.calls a0_0 (-1000) 1000 true _ A2.out).mono ?_); rintro e w' ⟨rfl, ⟨nd, rfl⟩⟩; refine ⟨_, rfl, ?_⟩) | (go_at_call 49; (with_reducible refine (spec_l1In.calls a0_1 0 4 true _ A4.out).mono ?_); rintro e w' ⟨rfl, ⟨nd, rfl⟩⟩) | (go_at_call 49; (with_reducible refine (spec_l1In.calls a0_2 0 4 false _ A6.out).mono ?_); rintro e w' ⟨rfl, ⟨nd, rfl⟩⟩))
    go_ret
    exact ⟨by first | rfl | (simp [errW_none, errW_some] <;> rfl) | (simp [*, errW_none, errW_some] <;> rfl), (zb1 HB)⟩
  ·
   replace c5 := Bool.eq_false_iff.mpr c5
   subst c5
   have H1 : (some false) = some r := by rw [if_neg (show ¬ (false = true) by decide)] at H; exact H
   clear H
   have H := H1
   clear H1
   obtain rfl := Option.some.inj H
   go_enter Tryz.func72, Tryz.ntmps72
   go_wp2_with (first | ((with_reducible refine gate_dst (N := 1) rfl ?_); refine zbe (N := 1) (cs := #[.int .i64 a0_0, .int .i64 a0_1, .int .i64 a0_2, .int .i64 a0_3]) (t := 62) ?_; intro gb115 hg w16 hbox hb; have BK115 := qa (hbox); have GW115 := qa (zge (zb0 HB) hg); have GE115 := GW115; replace HB := qa (below_step (zb0 HB) hb); clear hb hbox hg; obtain ⟨hcz17_0, hcz17_1, hcz17_2, hcz17_3⟩ := qc4 BK115; obtain ⟨hfz17_0, hfz17_1, hfz17_2, hfz17_3⟩ := qz4 BK115) | ((with_reducible refine gate_callee (f := 49) rfl ?_); refine qg 5 Tryz.func49 #[.int .i64 a0_0, .int .i64 (-1000), .int .i64 1000] ?_; (with_reducible refine (spec_l1In.calls a0_0 (-1000) 1000 true _ A2.out).mono ?_); rintro e w' ⟨rfl, ⟨nd, rfl⟩⟩; refine ⟨_, rfl, ?_⟩) | (go_at_call 49; (with_reducible refine (spec_l1In.calls a0_1 0 4 false _ A4.out).mono ?_); rintro e w' ⟨rfl, ⟨nd, rfl⟩⟩))
   go_ret
   exact ⟨by first | rfl | (simp [errW_none, errW_some] <;> rfl) | (simp [*, errW_none, errW_some] <;> rfl), (zb1 HB)⟩
 ·
  replace c3 := Bool.eq_false_iff.mpr c3
  subst c3
  have H1 : (some false) = some r := by rw [if_neg (show ¬ (false = true) by decide)] at H; exact H
  clear H
  have H := H1
  clear H1
  obtain rfl := Option.some.inj H
  go_enter Tryz.func72, Tryz.ntmps72
  go_wp2_with (first | ((with_reducible refine gate_dst (N := 1) rfl ?_); refine zbe (N := 1) (cs := #[.int .i64 a0_0, .int .i64 a0_1, .int .i64 a0_2, .int .i64 a0_3]) (t := 62) ?_; intro gb115 hg w18 hbox hb; have BK115 := qa (hbox); have GW115 := qa (zge (zb0 HB) hg); have GE115 := GW115; replace HB := qa (below_step (zb0 HB) hb); clear hb hbox hg; obtain ⟨hcz19_0, hcz19_1, hcz19_2, hcz19_3⟩ := qc4 BK115; obtain ⟨hfz19_0, hfz19_1, hfz19_2, hfz19_3⟩ := qz4 BK115) | ((with_reducible refine gate_callee (f := 49) rfl ?_); refine qg 5 Tryz.func49 #[.int .i64 a0_0, .int .i64 (-1000), .int .i64 1000] ?_; (with_reducible refine (spec_l1In.calls a0_0 (-1000) 1000 false _ A2.out).mono ?_); rintro e w' ⟨rfl, ⟨nd, rfl⟩⟩; refine ⟨_, rfl, ?_⟩))
  go_ret
  exact ⟨by first | rfl | (simp [errW_none, errW_some] <;> rfl) | (simp [*, errW_none, errW_some] <;> rfl), (zb1 HB)⟩
/-! ### spec_l1Sign: function 88 -/
set_option maxHeartbeats 8000000 in
set_option maxRecDepth 100000 in
theorem spec_l1Sign.calls (a0 : Int) (r : Int) (w : World) (h : spec_l1Sign.f a0 = some r) :
  Calls Tryz.prog 88 #[.int .i64 a0] w fun e w' => e = .returned (.int .i64 r) ∧ Drawn0 w w' := by
 have H : (if a0 > 0 then (some 1) else (if a0 < 0 then (some (-1)) else (some 0))) = some r := h
 clear h
 by_cases c2 : a0 > 0
 ·
  rw [if_pos c2] at H
  have c2b0 := decide_eq_true c2
  clear c2
  obtain rfl := Option.some.inj H
  go_enter Tryz.func88, Tryz.ntmps88
  go_wp2
  go_ret
  exact ⟨qf, by repeat (first | exact Drawn0.refl _ | apply Drawn0.step)⟩
 ·
  rw [if_neg c2] at H
  have c2b0 := decide_eq_false c2
  clear c2
  by_cases c3 : a0 < 0
  ·
   rw [if_pos c3] at H
   have c3b0 := decide_eq_true c3
   clear c3
   obtain rfl := Option.some.inj H
   go_enter Tryz.func88, Tryz.ntmps88
   go_wp2
   go_ret
   exact ⟨qf, by repeat (first | exact Drawn0.refl _ | apply Drawn0.step)⟩
  ·
   rw [if_neg c3] at H
   have c3b0 := decide_eq_false c3
   clear c3
   obtain rfl := Option.some.inj H
   go_enter Tryz.func88, Tryz.ntmps88
   go_wp2
   go_ret
   exact ⟨qf, by repeat (first | exact Drawn0.refl _ | apply Drawn0.step)⟩
/-! ### spec_poOrder: function 73 -/
set_option maxHeartbeats 8000000 in
set_option maxRecDepth 100000 in
theorem spec_poOrder.calls (a0_0 : Int) (a0_1 : Int) (a0_2 : Int) (a0_3 : Int) (a1_0 : Int) (a1_1 : Int) (a1_2 : Int) (a1_3 : Int) (r : Int) (w : World) (h : spec_poOrder.f a0_0 a0_1 a0_2 a0_3 a1_0 a1_1 a1_2 a1_3 = some r) :
  Calls Tryz.prog 73 #[.agg #[.int .i64 a0_0, .int .i64 a0_1, .int .i64 a0_2, .int .i64 a0_3], .agg #[.int .i64 a1_0, .int .i64 a1_1, .int .i64 a1_2, .int .i64 a1_3]] w fun e w' => e = .returned (.int .i64 r) ∧ Below w.heap.size w w' := by
 have hu62 := Tryz.underlying62
 have HB := qa (Below.refl w.heap.size w)
 have H : (if a0_1 = a1_1 then (if a0_2 = a1_2 then ((spec_l1Sign.f (wrap64 (a0_3 - a1_3))).bind fun t122 => (some t122)) else ((spec_l1Sign.f (wrap64 (a0_2 - a1_2))).bind fun t123 => (some t123))) else ((spec_l1Sign.f (wrap64 (a0_1 - a1_1))).bind fun t124 => (some t124))) = some r := h
 clear h
 by_cases c3 : a0_1 = a1_1
 ·
  rw [if_pos c3] at H
  have c3b0 : (a0_1 == a1_1) = true := beq_iff_eq.mpr c3
  have c3b1 : (a0_1 != a1_1) = false := bne_eq_false_iff_eq.mpr c3
  clear c3
  by_cases c4 : a0_2 = a1_2
  ·
   rw [if_pos c4] at H
   have c4b0 : (a0_2 == a1_2) = true := beq_iff_eq.mpr c4
   have c4b1 : (a0_2 != a1_2) = false := bne_eq_false_iff_eq.mpr c4
   clear c4
   replace H := qo H
   obtain ⟨t122, A5, H⟩ := H
   replace H : (some t122) = some r := H
   obtain rfl := Option.some.inj H
   go_enter Tryz.func73, Tryz.ntmps73
   go_wp2_with (first | ((with_reducible refine gate_dst (N := 2) rfl ?_); refine zbe (N := 2) (cs := #[.int .i64 a0_0, .int .i64 a0_1, .int .i64 a0_2, .int .i64 a0_3]) (t := 62) ?_; intro gb120 hg w6 hbox hb; have BK120 := qa (hbox); have GW120 := qa (zge (zb0 HB) hg); have GE120 := GW120; replace HB := qa (below_step (zb0 HB) hb); clear hb hbox hg) | ((with_reducible refine gate_dst (N := 3) rfl ?_); refine zbe (N := 3) (cs := #[.int .i64 a1_0, .int .i64 a1_1, .int .i64 a1_2, .int .i64 a1_3]) (t := 62) ?_; intro gb121 hg w7 hbox hb; have BK121 := qa (hbox); have GW121 := qa (zge (zb1 HB) hg); have GE121 := GW121; have NB120_121 := qa (zlt BK120 hg); have NB121_120 := qa (zgt BK120 hg); replace BK120 := qa (zbb BK120 hb); replace HB := qa (below_step (zb1 HB) hb); clear hb hbox hg; have hnb8 := NB120_121.out; have hnc8 := NB121_120.out; obtain ⟨hcz9_0, hcz9_1, hcz9_2, hcz9_3⟩ := qc4 BK120; obtain ⟨hfz9_0, hfz9_1, hfz9_2, hfz9_3⟩ := qz4 BK120; obtain ⟨hcz10_0, hcz10_1, hcz10_2, hcz10_3⟩ := qc4 BK121; obtain ⟨hfz10_0, hfz10_1, hfz10_2, hfz10_3⟩ := qz4 BK121) | ((with_reducible refine gate_callee (f := 88) rfl ?_); refine qg 34 Tryz.func88 #[.int .i64 (wrap64 (a0_3 - a1_3))] ?_; (with_reducible refine (spec_l1Sign.calls (wrap64 (a0_3 - a1_3)) t122 _ A5.out).mono ?_); rintro e w' ⟨rfl, ⟨nd, rfl⟩⟩; refine ⟨_, rfl, ?_⟩))
   go_ret
   exact ⟨by first | rfl | (simp [errW_none, errW_some] <;> rfl) | (simp [*, errW_none, errW_some] <;> rfl), (zb1 HB)⟩
  ·
   rw [if_neg c4] at H
   have c4b0 : (a0_2 == a1_2) = false := beq_eq_false_iff_ne.mpr c4
   have c4b1 : (a0_2 != a1_2) = true := bne_iff_ne.mpr c4
   replace H := qo H
   obtain ⟨t123, A11, H⟩ := H
   replace H : (some t123) = some r := H
   obtain rfl := Option.some.inj H
   go_enter Tryz.func73, Tryz.ntmps73
   go_wp2_with (first | ((with_reducible refine gate_dst (N := 2) rfl ?_); refine zbe (N := 2) (cs := #[.int .i64 a0_0, .int .i64 a0_1, .int .i64 a0_2, .int .i64 a0_3]) (t := 62) ?_; intro gb120 hg w12 hbox hb; have BK120 := qa (hbox); have GW120 := qa (zge (zb0 HB) hg); have GE120 := GW120; replace HB := qa (below_step (zb0 HB) hb); clear hb hbox hg) | ((with_reducible refine gate_dst (N := 3) rfl ?_); refine zbe (N := 3) (cs := #[.int .i64 a1_0, .int .i64 a1_1, .int .i64 a1_2, .int .i64 a1_3]) (t := 62) ?_; intro gb121 hg w13 hbox hb; have BK121 := qa (hbox); have GW121 := qa (zge (zb1 HB) hg); have GE121 := GW121; have NB120_121 := qa (zlt BK120 hg); have NB121_120 := qa (zgt BK120 hg); replace BK120 := qa (zbb BK120 hb); replace HB := qa (below_step (zb1 HB) hb); clear hb hbox hg; have hnb14 := NB120_121.out; have hnc14 := NB121_120.out; obtain ⟨hcz15_0, hcz15_1, hcz15_2, hcz15_3⟩ := qc4 BK120; obtain ⟨hfz15_0, hfz15_1, hfz15_2, hfz15_3⟩ := qz4 BK120; obtain ⟨hcz16_0, hcz16_1, hcz16_2, hcz16_3⟩ := qc4 BK121; obtain ⟨hfz16_0, hfz16_1, hfz16_2, hfz16_3⟩ := qz4 BK121) | ((with_reducible refine gate_callee (f := 88) rfl ?_); refine qg 28 Tryz.func88 #[.int .i64 (wrap64 (a0_2 - a1_2))] ?_; (with_reducible refine (spec_l1Sign.calls (wrap64 (a0_2 - a1_2)) t123 _ A11.out).mono ?_); rintro e w' ⟨rfl, ⟨nd, rfl⟩⟩; refine ⟨_, rfl, ?_⟩))
   go_ret
   exact ⟨by first | rfl | (simp [errW_none, errW_some] <;> rfl) | (simp [*, errW_none, errW_some] <;> rfl), (zb1 HB)⟩
 ·
  rw [if_neg c3] at H
  have c3b0 : (a0_1 == a1_1) = false := beq_eq_false_iff_ne.mpr c3
  have c3b1 : (a0_1 != a1_1) = true := bne_iff_ne.mpr c3
  replace H := qo H
  obtain ⟨t124, A17, H⟩ := H
  replace H : (some t124) = some r := H
  obtain rfl := Option.some.inj H
  go_enter Tryz.func73, Tryz.ntmps73
  go_wp2_with (first | ((with_reducible refine gate_dst (N := 2) rfl ?_); refine zbe (N := 2) (cs := #[.int .i64 a0_0, .int .i64 a0_1, .int .i64 a0_2, .int .i64 a0_3]) (t := 62) ?_; intro gb120 hg w18 hbox hb; have BK120 := qa (hbox); have GW120 := qa (zge (zb0 HB) hg); have GE120 := GW120; replace HB := qa (below_step (zb0 HB) hb); clear hb hbox hg) | ((with_reducible refine gate_dst (N := 3) rfl ?_); refine zbe (N := 3) (cs := #[.int .i64 a1_0, .int .i64 a1_1, .int .i64 a1_2, .int .i64 a1_3]) (t := 62) ?_; intro gb121 hg w19 hbox hb; have BK121 := qa (hbox); have GW121 := qa (zge (zb1 HB) hg); have GE121 := GW121; have NB120_121 := qa (zlt BK120 hg); have NB121_120 := qa (zgt BK120 hg); replace BK120 := qa (zbb BK120 hb); replace HB := qa (below_step (zb1 HB) hb); clear hb hbox hg; have hnb20 := NB120_121.out; have hnc20 := NB121_120.out; obtain ⟨hcz21_0, hcz21_1, hcz21_2, hcz21_3⟩ := qc4 BK120; obtain ⟨hfz21_0, hfz21_1, hfz21_2, hfz21_3⟩ := qz4 BK120; obtain ⟨hcz22_0, hcz22_1, hcz22_2, hcz22_3⟩ := qc4 BK121; obtain ⟨hfz22_0, hfz22_1, hfz22_2, hfz22_3⟩ := qz4 BK121) | ((with_reducible refine gate_callee (f := 88) rfl ?_); refine qg 16 Tryz.func88 #[.int .i64 (wrap64 (a0_1 - a1_1))] ?_; (with_reducible refine (spec_l1Sign.calls (wrap64 (a0_1 - a1_1)) t124 _ A17.out).mono ?_); rintro e w' ⟨rfl, ⟨nd, rfl⟩⟩; refine ⟨_, rfl, ?_⟩))
  go_ret
  exact ⟨by first | rfl | (simp [errW_none, errW_some] <;> rfl) | (simp [*, errW_none, errW_some] <;> rfl), (zb1 HB)⟩
/-! ### spec_poWith: function 51 -/
set_option maxHeartbeats 8000000 in
set_option maxRecDepth 100000 in
theorem spec_poWith.calls (a0_0 : Int) (a0_1 : Int) (a0_2 : Int) (a0_3 : Int) (a1 : Int) (a2 : Int) (r1 : Int) (r2 : Int) (r3 : Int) (r4 : Int) (w : World) (h : spec_poWith.f a0_0 a0_1 a0_2 a0_3 a1 a2 = some (r1, r2, r3, r4)) :
  Calls Tryz.prog 51 #[.agg #[.int .i64 a0_0, .int .i64 a0_1, .int .i64 a0_2, .int .i64 a0_3], .int .i64 a1, .int .i64 a2] w fun e w' => e = .returned (.agg #[.int .i64 r1, .int .i64 r2, .int .i64 r3, .int .i64 r4]) ∧ Below w.heap.size w w' := by
 have hu62 := Tryz.underlying62
 have HB := qa (Below.refl w.heap.size w)
 have H : (if a1 = 0 then (some (a0_0, a2, a0_2, a0_3)) else (if a1 = 1 then (some (a0_0, a0_1, a2, a0_3)) else (some (a0_0, a0_1, a0_2, a2)))) = some (r1, r2, r3, r4) := h
 clear h
 by_cases c4 : a1 = 0
 ·
  rw [if_pos c4] at H
  have c4b0 : (a1 == 0) = true := beq_iff_eq.mpr c4
  have c4b1 : (a1 != 0) = false := bne_eq_false_iff_eq.mpr c4
  clear c4
  simp only [Option.some.injEq, Prod.mk.injEq] at H
  obtain ⟨rfl, rfl, rfl, rfl⟩ := H
  go_enter Tryz.func51, Tryz.ntmps51
  go_wp2_with (first | ((with_reducible refine gate_dst (N := 3) rfl ?_); refine zbe (N := 3) (cs := #[.int .i64 a0_0, .int .i64 a0_1, .int .i64 a0_2, .int .i64 a0_3]) (t := 62) ?_; intro gb201 hg w5 hbox hb; have BK201 := qa (hbox); have GW201 := qa (zge (zb0 HB) hg); have GE201 := GW201; replace HB := qa (below_step (zb0 HB) hb); clear hb hbox hg) | ((with_reducible refine gate_dst (N := 6) rfl ?_); refine zbe (N := 6) (cs := #[.int .i64 0, .int .i64 0, .int .i64 0, .int .i64 0]) (t := 62) ?_; intro gb202 hg w6 hbox hb; have BK202 := qa (hbox); have GW202 := qa (zge (zb1 HB) hg); have GE202 := GW202; have NB201_202 := qa (zlt BK201 hg); have NB202_201 := qa (zgt BK201 hg); replace BK201 := qa (zbb BK201 hb); replace HB := qa (below_step (zb1 HB) hb); clear hb hbox hg; have hnb7 := NB201_202.out; have hnc7 := NB202_201.out; obtain ⟨hcz8_0, hcz8_1, hcz8_2, hcz8_3⟩ := qc4 BK201; obtain ⟨hfz8_0, hfz8_1, hfz8_2, hfz8_3⟩ := qz4 BK201; obtain ⟨hcz9_0, hcz9_1, hcz9_2, hcz9_3⟩ := qc4 BK202; obtain ⟨hfz9_0, hfz9_1, hfz9_2, hfz9_3⟩ := qz4 BK202))
  refine bodyPost_ret (results_cell_row rfl _ _ gb202 62 #[.int .i64 a0_0, .int .i64 a2, .int .i64 a0_2, .int .i64 a0_3] (0, 0) _ rfl (qs BK202) Tryz.underlying62 rfl (by kernel_rfl)) rfl ?_
  exact ⟨by first | rfl | (simp [errW_none, errW_some] <;> rfl) | (simp [*, errW_none, errW_some] <;> rfl), (zb1 HB)⟩
 ·
  rw [if_neg c4] at H
  have c4b0 : (a1 == 0) = false := beq_eq_false_iff_ne.mpr c4
  have c4b1 : (a1 != 0) = true := bne_iff_ne.mpr c4
  by_cases c10 : a1 = 1
  ·
   rw [if_pos c10] at H
   have c10b0 : (a1 == 1) = true := beq_iff_eq.mpr c10
   have c10b1 : (a1 != 1) = false := bne_eq_false_iff_eq.mpr c10
   clear c10
   simp only [Option.some.injEq, Prod.mk.injEq] at H
   obtain ⟨rfl, rfl, rfl, rfl⟩ := H
   go_enter Tryz.func51, Tryz.ntmps51
   go_wp2_with (first | ((with_reducible refine gate_dst (N := 3) rfl ?_); refine zbe (N := 3) (cs := #[.int .i64 a0_0, .int .i64 a0_1, .int .i64 a0_2, .int .i64 a0_3]) (t := 62) ?_; intro gb201 hg w11 hbox hb; have BK201 := qa (hbox); have GW201 := qa (zge (zb0 HB) hg); have GE201 := GW201; replace HB := qa (below_step (zb0 HB) hb); clear hb hbox hg) | ((with_reducible refine gate_dst (N := 6) rfl ?_); refine zbe (N := 6) (cs := #[.int .i64 0, .int .i64 0, .int .i64 0, .int .i64 0]) (t := 62) ?_; intro gb202 hg w12 hbox hb; have BK202 := qa (hbox); have GW202 := qa (zge (zb1 HB) hg); have GE202 := GW202; have NB201_202 := qa (zlt BK201 hg); have NB202_201 := qa (zgt BK201 hg); replace BK201 := qa (zbb BK201 hb); replace HB := qa (below_step (zb1 HB) hb); clear hb hbox hg; have hnb13 := NB201_202.out; have hnc13 := NB202_201.out; obtain ⟨hcz14_0, hcz14_1, hcz14_2, hcz14_3⟩ := qc4 BK201; obtain ⟨hfz14_0, hfz14_1, hfz14_2, hfz14_3⟩ := qz4 BK201; obtain ⟨hcz15_0, hcz15_1, hcz15_2, hcz15_3⟩ := qc4 BK202; obtain ⟨hfz15_0, hfz15_1, hfz15_2, hfz15_3⟩ := qz4 BK202))
   refine bodyPost_ret (results_cell_row rfl _ _ gb202 62 #[.int .i64 a0_0, .int .i64 a0_1, .int .i64 a2, .int .i64 a0_3] (0, 0) _ rfl (qs BK202) Tryz.underlying62 rfl (by kernel_rfl)) rfl ?_
   exact ⟨by first | rfl | (simp [errW_none, errW_some] <;> rfl) | (simp [*, errW_none, errW_some] <;> rfl), (zb1 HB)⟩
  ·
   rw [if_neg c10] at H
   have c10b0 : (a1 == 1) = false := beq_eq_false_iff_ne.mpr c10
   have c10b1 : (a1 != 1) = true := bne_iff_ne.mpr c10
   simp only [Option.some.injEq, Prod.mk.injEq] at H
   obtain ⟨rfl, rfl, rfl, rfl⟩ := H
   go_enter Tryz.func51, Tryz.ntmps51
   go_wp2_with (first | ((with_reducible refine gate_dst (N := 3) rfl ?_); refine zbe (N := 3) (cs := #[.int .i64 a0_0, .int .i64 a0_1, .int .i64 a0_2, .int .i64 a0_3]) (t := 62) ?_; intro gb201 hg w16 hbox hb; have BK201 := qa (hbox); have GW201 := qa (zge (zb0 HB) hg); have GE201 := GW201; replace HB := qa (below_step (zb0 HB) hb); clear hb hbox hg) | ((with_reducible refine gate_dst (N := 6) rfl ?_); refine zbe (N := 6) (cs := #[.int .i64 0, .int .i64 0, .int .i64 0, .int .i64 0]) (t := 62) ?_; intro gb202 hg w17 hbox hb; have BK202 := qa (hbox); have GW202 := qa (zge (zb1 HB) hg); have GE202 := GW202; have NB201_202 := qa (zlt BK201 hg); have NB202_201 := qa (zgt BK201 hg); replace BK201 := qa (zbb BK201 hb); replace HB := qa (below_step (zb1 HB) hb); clear hb hbox hg; have hnb18 := NB201_202.out; have hnc18 := NB202_201.out; obtain ⟨hcz19_0, hcz19_1, hcz19_2, hcz19_3⟩ := qc4 BK201; obtain ⟨hfz19_0, hfz19_1, hfz19_2, hfz19_3⟩ := qz4 BK201; obtain ⟨hcz20_0, hcz20_1, hcz20_2, hcz20_3⟩ := qc4 BK202; obtain ⟨hfz20_0, hfz20_1, hfz20_2, hfz20_3⟩ := qz4 BK202))
   refine bodyPost_ret (results_cell_row rfl _ _ gb202 62 #[.int .i64 a0_0, .int .i64 a0_1, .int .i64 a0_2, .int .i64 a2] (0, 0) _ rfl (qs BK202) Tryz.underlying62 rfl (by kernel_rfl)) rfl ?_
   exact ⟨by first | rfl | (simp [errW_none, errW_some] <;> rfl) | (simp [*, errW_none, errW_some] <;> rfl), (zb1 HB)⟩
theorem eqA62 (d : Nat) (w : World) (x0 y0 : Int) (x1 y1 : Int) (x2 y2 : Int) (x3 y3 : Int) :
    (Op.equalIn (d + 2) 62 (.agg #[.int .i64 x0, .int .i64 x1, .int .i64 x2, .int .i64 x3]) (.agg #[.int .i64 y0, .int .i64 y1, .int .i64 y2, .int .i64 y3])).run Tryz.prog w = .ok (x0 == y0 && (x1 == y1 && (x2 == y2 && (x3 == y3)))) w := by
  refine eqA_of Tryz.underlying62 (by kernel_rfl) ?_
  refine eqf_cons (by rfl) (by go_simp; rfl) (by go_simp; rfl) (by go_simp) ?_
  refine eqf_cons (by rfl) (by go_simp; rfl) (by go_simp; rfl) (by go_simp) ?_
  refine eqf_cons (by rfl) (by go_simp; rfl) (by go_simp; rfl) (by go_simp) ?_
  exact eqf_last (by rfl) (by go_simp; rfl) (by go_simp; rfl) (by go_simp)
/-! ### spec_l1Own: function 29 -/
set_option maxHeartbeats 8000000 in
set_option maxRecDepth 100000 in
theorem spec_l1Own.calls (A0 : Option Addr) (c0 : Nat) (l0 : List Int) (r : List Int) (w : World) (hr0 : Kd.C (Kd.int .i64) w A0 l0.length l0) (hc0 : l0.length ≤ c0) (h : spec_l1Own.f l0 = some r) :
  Calls Tryz.prog 29 #[.slice A0 l0.length c0] w fun e w' => ∃ v0_ : Value, e = .returned (v0_) ∧ Kd.R (Kd.int .i64) 3 w' w.heap.size (fun _ => True) v0_ r ∧ Below w.heap.size w w' := by
 have HR0 := qa hr0
 have HC0 := qa hc0
 clear hr0 hc0
 have HB := qa (Below.refl w.heap.size w)
 have H : ((some (([] : List Int) : List Int)).bind fun y303 => (if y303.length + l0.length < 17592186044416 then (some (y303 ++ l0)) else (none))) = some r := h
 clear h
 obtain ⟨y303, hy303⟩ : ∃ y_ : List Int, y_ = (([] : List Int)) := ⟨_, rfl⟩
 replace H : (if y303.length + l0.length < 17592186044416 then (some (y303 ++ l0)) else (none)) = some r := by first | (rw [hy303]; with_reducible exact H) | (have H2_ := (Option.bind_some _ _).symm.trans H; rw [hy303]; with_reducible exact H2_) | (have H2_ := (Option.bind_some _ _).symm.trans H; with_reducible exact H2_) | with_reducible exact H | (rw [hy303]; exact H) | exact H
 have Ny303 := qa hy303
 clear hy303
 by_cases c2 : y303.length + l0.length < 17592186044416
 ·
  rw [if_pos c2] at H
  have LMc2 := qa c2
  clear c2
  obtain ⟨y306, hy306⟩ : ∃ y_ : List Int, y_ = (y303 ++ l0) := ⟨_, rfl⟩
  replace H : (some y306) = some r := by first | (rw [hy306]; with_reducible exact H) | (have H2_ := (Option.bind_some _ _).symm.trans H; rw [hy306]; with_reducible exact H2_) | (have H2_ := (Option.bind_some _ _).symm.trans H; with_reducible exact H2_) | with_reducible exact H | (rw [hy306]; exact H) | exact H
  have Ny306 := qa hy306
  clear hy306
  obtain rfl := Option.some.inj H
  go_enter Tryz.func29, Tryz.ntmps29
  go_wp2_with (first | ((with_reducible refine gate_dst (N := 3) rfl ?_); refine Kd.R_lit (Kd.int .i64) _ 3 ?hg (N := 3) ?hd (xs := ([] : List Int)) (inner := []) (ok := fun _ => True) (okp := fun _ => True) ?hr ?hp (fun _ hk => hk) trivial (Below.refl _ _) (Nat.le_refl _) (by simp) ?_; (case hd => rfl); (case hg => rfl); (case hr => first | (go_simp; done) | (go_simp; rfl)); (case hp => exact (Reps.none _ _)); intro v304 w3 ho4 hb hg_ hnew_; clear hg_ hnew_; (first | rw [← Ny303.out] at ho4 | (simp only [Int.reduceToNat] at ho4; rw [← Ny303.out] at ho4)); have HO305 := qa (Kd.R_lower ho4 (below_size (zb0 HB))); replace HB := qa (below_step (zb0 HB) hb); clear hb ho4) | ((with_reducible refine gate_builtin (b := .append) (xs := #[.tmp 3, .tmp 4]) rfl ?_); at_builtin; refine Kd.R_append_rows (Kd.int .i64) (w0 := w) w.heap.size rfl (.tmp 3) (.tmp 4) 25 3 (.int .i64 0) 8 rfl Tryz.underlying25 info3 rfl (by decide) (by omega) v304 y303 l0 _ _ _ (fun _ => True) (fun _ => False) rfl rfl ?aO ?aR (fun _ _ h => h) (fun _ h => h.elim) ?aF ?aB ?aS ?aL ?_; (case aR => repeat (first | exact (Kd.C_below HR0.out HB.out) | (with_reducible refine Kd.C_alloc ?_ _) | (with_reducible refine Kd.C_drewN ?_ _) | (with_reducible refine Kd.C_drew ?_))); (case aB => exact (zb0 HB)); (case aF => exact (fun _ _ => trivial)); (case aO => exact (zq3 HO305)); (case aS => exact (below_size (zb0 HB))); (case aL => have := LMc2.out; omega); intro v307 w5 ho hb hg hat; rw [← Ny306.out] at ho; have HO308 := qa (ho); replace HB := qa (hb); clear HO305; clear ho hb hg hat))
  go_ret
  exact ⟨_, by first | rfl | (simp [errW_none, errW_some] <;> rfl) | (simp [*, errW_none, errW_some] <;> rfl), by (with_reducible repeat (first | apply Kd.R_alloc | apply Kd.R_drewN | apply Kd.R_drew)); exact HO308.out, (zb0 HB)⟩
 ·
  rw [if_neg c2] at H
  exact absurd H (by simp)
/-! ### impl_inside: function 47 -/
set_option maxHeartbeats 8000000 in
set_option maxRecDepth 100000 in
theorem impl_inside.calls (a0 : Int) (a1 : Int) (a2 : Int) (r : Bool) (w : World) (h : impl_inside.f a0 a1 a2 = some r) :
  Calls Tryz.prog 47 #[.int .i64 a0, .int .i64 a1, .int .i64 a2] w fun e w' => e = .returned (.bool r) ∧ Drawn0 w w' := by
 have H : (if a0 ≥ a1 then (some (decide (a0 ≤ a2))) else (some false)) = some r := h
 clear h
 by_cases c4 : a0 ≥ a1
 ·
  rw [if_pos c4] at H
  have c4b0 := decide_eq_true c4
  clear c4
  obtain rfl := Option.some.inj H
  go_enter Tryz.func47, Tryz.ntmps47
  go_wp2
  go_ret
  exact ⟨qf, by repeat (first | exact Drawn0.refl _ | apply Drawn0.step)⟩
 ·
  rw [if_neg c4] at H
  have c4b0 := decide_eq_false c4
  clear c4
  obtain rfl := Option.some.inj H
  go_enter Tryz.func47, Tryz.ntmps47
  go_wp2
  go_ret
  exact ⟨qf, by repeat (first | exact Drawn0.refl _ | apply Drawn0.step)⟩
/-! ### impl_Term_degree: function 75 -/
set_option maxHeartbeats 8000000 in
set_option maxRecDepth 100000 in
theorem impl_Term_degree.calls (a0_0 : Int) (a0_1 : Int) (a0_2 : Int) (a0_3 : Int) (r : Int) (w : World) (h : impl_Term_degree.f a0_0 a0_1 a0_2 a0_3 = some r) :
  Calls Tryz.prog 75 #[.agg #[.int .i64 a0_0, .int .i64 a0_1, .int .i64 a0_2, .int .i64 a0_3]] w fun e w' => e = .returned (.int .i64 r) ∧ Below w.heap.size w w' := by
 have hu62 := Tryz.underlying62
 have HB := qa (Below.refl w.heap.size w)
 have H : (some (wrap64 ((wrap64 (a0_1 + a0_2)) + a0_3))) = some r := h
 clear h
 obtain rfl := Option.some.inj H
 go_enter Tryz.func75, Tryz.ntmps75
 go_wp2_with (first | ((with_reducible refine gate_dst (N := 1) rfl ?_); refine zbe (N := 1) (cs := #[.int .i64 a0_0, .int .i64 a0_1, .int .i64 a0_2, .int .i64 a0_3]) (t := 62) ?_; intro gb309 hg w2 hbox hb; have BK309 := qa (hbox); have GW309 := qa (zge (zb0 HB) hg); have GE309 := GW309; replace HB := qa (below_step (zb0 HB) hb); clear hb hbox hg; obtain ⟨hcz3_0, hcz3_1, hcz3_2, hcz3_3⟩ := qc4 BK309; obtain ⟨hfz3_0, hfz3_1, hfz3_2, hfz3_3⟩ := qz4 BK309))
 go_ret
 exact ⟨by first | rfl | (simp [errW_none, errW_some] <;> rfl) | (simp [*, errW_none, errW_some] <;> rfl), (zb1 HB)⟩
/-! ### impl_hasDegree: function 63 -/
set_option maxHeartbeats 8000000 in
set_option maxRecDepth 100000 in
theorem impl_hasDegree.calls (a0_0 : Int) (a0_1 : Int) (a0_2 : Int) (a0_3 : Int) (r : Bool) (w : World) (h : impl_hasDegree.f a0_0 a0_1 a0_2 a0_3 = some r) :
  Calls Tryz.prog 63 #[.agg #[.int .i64 a0_0, .int .i64 a0_1, .int .i64 a0_2, .int .i64 a0_3]] w fun e w' => e = .returned (.bool r) ∧ Below w.heap.size w w' := by
 have hu62 := Tryz.underlying62
 have HB := qa (Below.refl w.heap.size w)
 have H : ((impl_inside.f a0_1 0 4).bind fun t311 => (if t311 = true then ((impl_inside.f a0_2 0 4).bind fun t312 => (if t312 = true then ((impl_inside.f a0_3 0 4).bind fun t313 => (if t313 = true then ((impl_Term_degree.f a0_0 a0_1 a0_2 a0_3).bind fun t314 => (some (decide (t314 ≤ 4)))) else (some false))) else (some false))) else (some false))) = some r := h
 clear h
 replace H := qo H
 obtain ⟨t311, A2, H⟩ := H
 replace H : (if t311 = true then ((impl_inside.f a0_2 0 4).bind fun t312 => (if t312 = true then ((impl_inside.f a0_3 0 4).bind fun t313 => (if t313 = true then ((impl_Term_degree.f a0_0 a0_1 a0_2 a0_3).bind fun t314 => (some (decide (t314 ≤ 4)))) else (some false))) else (some false))) else (some false)) = some r := H
 by_cases c3 : t311 = true
 ·
  subst c3
  have H1 : ((impl_inside.f a0_2 0 4).bind fun t312 => (if t312 = true then ((impl_inside.f a0_3 0 4).bind fun t313 => (if t313 = true then ((impl_Term_degree.f a0_0 a0_1 a0_2 a0_3).bind fun t314 => (some (decide (t314 ≤ 4)))) else (some false))) else (some false))) = some r := by rw [if_pos rfl] at H; exact H
  clear H
  have H := H1
  clear H1
  replace H := qo H
  obtain ⟨t312, A4, H⟩ := H
  replace H : (if t312 = true then ((impl_inside.f a0_3 0 4).bind fun t313 => (if t313 = true then ((impl_Term_degree.f a0_0 a0_1 a0_2 a0_3).bind fun t314 => (some (decide (t314 ≤ 4)))) else (some false))) else (some false)) = some r := H
  by_cases c5 : t312 = true
  ·
   subst c5
   have H1 : ((impl_inside.f a0_3 0 4).bind fun t313 => (if t313 = true then ((impl_Term_degree.f a0_0 a0_1 a0_2 a0_3).bind fun t314 => (some (decide (t314 ≤ 4)))) else (some false))) = some r := by rw [if_pos rfl] at H; exact H
   clear H
   have H := H1
   clear H1
   replace H := qo H
   obtain ⟨t313, A6, H⟩ := H
   replace H : (if t313 = true then ((impl_Term_degree.f a0_0 a0_1 a0_2 a0_3).bind fun t314 => (some (decide (t314 ≤ 4)))) else (some false)) = some r := H
   by_cases c7 : t313 = true
   ·
    subst c7
    have H1 : ((impl_Term_degree.f a0_0 a0_1 a0_2 a0_3).bind fun t314 => (some (decide (t314 ≤ 4)))) = some r := by rw [if_pos rfl] at H; exact H
    clear H
    have H := H1
    clear H1
    replace H := qo H
    obtain ⟨t314, A8, H⟩ := H
    replace H : (some (decide (t314 ≤ 4))) = some r := H
    obtain rfl := Option.some.inj H
    go_enter Tryz.func63, Tryz.ntmps63
    go_wp2_with (first | ((with_reducible refine gate_dst (N := 1) rfl ?_); refine zbe (N := 1) (cs := #[.int .i64 a0_0, .int .i64 a0_1, .int .i64 a0_2, .int .i64 a0_3]) (t := 62) ?_; intro gb310 hg w9 hbox hb; have BK310 := qa (hbox); have GW310 := qa (zge (zb0 HB) hg); have GE310 := GW310; replace HB := qa (below_step (zb0 HB) hb); clear hb hbox hg; obtain ⟨hcz10_0, hcz10_1, hcz10_2, hcz10_3⟩ := qc4 BK310; obtain ⟨hfz10_0, hfz10_1, hfz10_2, hfz10_3⟩ := qz4 BK310) | ((with_reducible refine gate_callee (f := 47) rfl ?_); refine qg 5 Tryz.func47 #[.int .i64 a0_1, .int .i64 0, .int .i64 4] ?_; (with_reducible refine (impl_inside.calls a0_1 0 4 true _ A2.out).mono ?_); rintro e w' ⟨rfl, ⟨nd, rfl⟩⟩; refine ⟨_, rfl, ?_⟩) | (go_at_call 47; (with_reducible refine (impl_inside.calls a0_2 0 4 true _ A4.out).mono ?_); rintro e w' ⟨rfl, ⟨nd, rfl⟩⟩) | (go_at_call 47; (with_reducible refine (impl_inside.calls a0_3 0 4 true _ A6.out).mono ?_); rintro e w' ⟨rfl, ⟨nd, rfl⟩⟩) | (go_at_call 75; (with_reducible refine (impl_Term_degree.calls a0_0 a0_1 a0_2 a0_3 t314 _ A8.out).mono ?_); rintro e w11 ⟨rfl, hb⟩; replace BK310 := qa (zbb BK310 hb); replace HB := qa (below_step (zb1 HB) hb); (try clear hb); (try clear hb2); (try clear hk); (try clear hi)))
    go_ret
    exact ⟨by first | rfl | (simp [errW_none, errW_some] <;> rfl) | (simp [*, errW_none, errW_some] <;> rfl), (zb1 HB)⟩
   ·
    replace c7 := Bool.eq_false_iff.mpr c7
    subst c7
    have H1 : (some false) = some r := by rw [if_neg (show ¬ (false = true) by decide)] at H; exact H
    clear H
    have H := H1
    clear H1
    obtain rfl := Option.some.inj H
    go_enter Tryz.func63, Tryz.ntmps63
    go_wp2_with (first | ((with_reducible refine gate_dst (N := 1) rfl ?_); refine zbe (N := 1) (cs := #[.int .i64 a0_0, .int .i64 a0_1, .int .i64 a0_2, .int .i64 a0_3]) (t := 62) ?_; intro gb310 hg w12 hbox hb; have BK310 := qa (hbox); have GW310 := qa (zge (zb0 HB) hg); have GE310 := GW310; replace HB := qa (below_step (zb0 HB) hb); clear hb hbox hg; obtain ⟨hcz13_0, hcz13_1, hcz13_2, hcz13_3⟩ := qc4 BK310; obtain ⟨hfz13_0, hfz13_1, hfz13_2, hfz13_3⟩ := qz4 BK310) | ((with_reducible refine gate_callee (f := 47) rfl ?_); refine qg 5 Tryz.func47 #[.int .i64 a0_1, .int .i64 0, .int .i64 4] ?_; (with_reducible refine (impl_inside.calls a0_1 0 4 true _ A2.out).mono ?_); rintro e w' ⟨rfl, ⟨nd, rfl⟩⟩; refine ⟨_, rfl, ?_⟩) | (go_at_call 47; (with_reducible refine (impl_inside.calls a0_2 0 4 true _ A4.out).mono ?_); rintro e w' ⟨rfl, ⟨nd, rfl⟩⟩) | (go_at_call 47; (with_reducible refine (impl_inside.calls a0_3 0 4 false _ A6.out).mono ?_); rintro e w' ⟨rfl, ⟨nd, rfl⟩⟩))
    go_ret
    exact ⟨by first | rfl | (simp [errW_none, errW_some] <;> rfl) | (simp [*, errW_none, errW_some] <;> rfl), (zb1 HB)⟩
  ·
   replace c5 := Bool.eq_false_iff.mpr c5
   subst c5
   have H1 : (some false) = some r := by rw [if_neg (show ¬ (false = true) by decide)] at H; exact H
   clear H
   have H := H1
   clear H1
   obtain rfl := Option.some.inj H
   go_enter Tryz.func63, Tryz.ntmps63
   go_wp2_with (first | ((with_reducible refine gate_dst (N := 1) rfl ?_); refine zbe (N := 1) (cs := #[.int .i64 a0_0, .int .i64 a0_1, .int .i64 a0_2, .int .i64 a0_3]) (t := 62) ?_; intro gb310 hg w14 hbox hb; have BK310 := qa (hbox); have GW310 := qa (zge (zb0 HB) hg); have GE310 := GW310; replace HB := qa (below_step (zb0 HB) hb); clear hb hbox hg; obtain ⟨hcz15_0, hcz15_1, hcz15_2, hcz15_3⟩ := qc4 BK310; obtain ⟨hfz15_0, hfz15_1, hfz15_2, hfz15_3⟩ := qz4 BK310) | ((with_reducible refine gate_callee (f := 47) rfl ?_); refine qg 5 Tryz.func47 #[.int .i64 a0_1, .int .i64 0, .int .i64 4] ?_; (with_reducible refine (impl_inside.calls a0_1 0 4 true _ A2.out).mono ?_); rintro e w' ⟨rfl, ⟨nd, rfl⟩⟩; refine ⟨_, rfl, ?_⟩) | (go_at_call 47; (with_reducible refine (impl_inside.calls a0_2 0 4 false _ A4.out).mono ?_); rintro e w' ⟨rfl, ⟨nd, rfl⟩⟩))
   go_ret
   exact ⟨by first | rfl | (simp [errW_none, errW_some] <;> rfl) | (simp [*, errW_none, errW_some] <;> rfl), (zb1 HB)⟩
 ·
  replace c3 := Bool.eq_false_iff.mpr c3
  subst c3
  have H1 : (some false) = some r := by rw [if_neg (show ¬ (false = true) by decide)] at H; exact H
  clear H
  have H := H1
  clear H1
  obtain rfl := Option.some.inj H
  go_enter Tryz.func63, Tryz.ntmps63
  go_wp2_with (first | ((with_reducible refine gate_dst (N := 1) rfl ?_); refine zbe (N := 1) (cs := #[.int .i64 a0_0, .int .i64 a0_1, .int .i64 a0_2, .int .i64 a0_3]) (t := 62) ?_; intro gb310 hg w16 hbox hb; have BK310 := qa (hbox); have GW310 := qa (zge (zb0 HB) hg); have GE310 := GW310; replace HB := qa (below_step (zb0 HB) hb); clear hb hbox hg; obtain ⟨hcz17_0, hcz17_1, hcz17_2, hcz17_3⟩ := qc4 BK310; obtain ⟨hfz17_0, hfz17_1, hfz17_2, hfz17_3⟩ := qz4 BK310) | ((with_reducible refine gate_callee (f := 47) rfl ?_); refine qg 5 Tryz.func47 #[.int .i64 a0_1, .int .i64 0, .int .i64 4] ?_; (with_reducible refine (impl_inside.calls a0_1 0 4 false _ A2.out).mono ?_); rintro e w' ⟨rfl, ⟨nd, rfl⟩⟩; refine ⟨_, rfl, ?_⟩))
  go_ret
  exact ⟨by first | rfl | (simp [errW_none, errW_some] <;> rfl) | (simp [*, errW_none, errW_some] <;> rfl), (zb1 HB)⟩
/-! ### cmp_Or_int: function 82 -/
set_option maxHeartbeats 8000000 in
set_option maxRecDepth 100000 in
theorem cmp_Or_int.calls (k : Nat) (A0 : Option Addr) (c0 : Nat) (l0 : List Int) (r : Int) (w : World) (hr0 : Kd.C (Kd.int .i64) w A0 l0.length l0) (hc0 : l0.length ≤ c0) (h : cmp_Or_int.f k l0 = some r) :
  Calls Tryz.prog 82 #[.slice A0 l0.length c0] w fun e w' => e = .returned (.int .i64 r) ∧ Drawn0 w w' := by
 have HR0 := qa hr0
 have HC0 := qa hc0
 clear hr0 hc0
 have H : (cmp_Or_int.l0 k 0 l0 (l0.length : Int) 0) = some r := h
 clear h
 have H' := qa H
 clear H
 go_enter Tryz.func82, Tryz.ntmps82
 go_wp2
 go_loopg [8] k (fun kq v8 w' => ∃ (x8_1 : Int), v8 = .int .i64 x8_1 ∧ Aside0 (cmp_Or_int.l0 kq 0 l0 (l0.length : Int) x8_1 = some r) ∧ Aside0 (kq ≤ k) ∧ Drawn0 w w')
 case atStart => exact ⟨(0), qf, H', ⟨Nat.le_refl _⟩, by repeat (first | exact Drawn0.refl _ | apply Drawn0.step)⟩
 case round =>
  clear H'
  obtain ⟨x8_1, rfl, HA, HK1, ⟨m1, rfl⟩⟩ := hrel
  cases gk with
  | zero => exact absurd HA.out (by simp [cmp_Or_int.l0])
  | succ k1 =>
   have H := HA.out
   clear HA
   simp only [cmp_Or_int.l0] at H
   by_cases c2 : x8_1 < (l0.length : Int)
   ·
    rw [if_pos c2] at H
    have c2b0 := decide_eq_true c2
    clear c2
    by_cases c3 : 0 ≤ x8_1
    ·
     rw [if_pos c3] at H
     have c3b0 := decide_eq_true c3
     clear c3
     by_cases c4 : x8_1 < (l0.length : Int)
     ·
      rw [if_pos c4] at H
      have c4b0 := decide_eq_true c4
      clear c4
      by_cases c5 : (rd l0 x8_1) = 0
      ·
       rw [if_pos c5] at H
       have c5b0 : ((rd l0 x8_1) == 0) = true := beq_iff_eq.mpr c5
       have c5b1 : ((rd l0 x8_1) != 0) = false := bne_eq_false_iff_eq.mpr c5
       clear c5
       have H' := qa H
       clear H
       have p315 : 0 ≤ (x8_1 : Int) := qd
       have q315 : x8_1 < (l0.length : Int) := qd
       obtain ⟨ad315, e315, hx315_0⟩ := Kd.at_int HR0.out x8_1 p315 q315
       cases e315
       replace p315 := eq_true p315
       replace q315 := eq_true q315
       go_wp2
       go_roundg k1
       case measure => have := HK1.out; omega
       case rel => exact ⟨(wrap64 (x8_1 + 1)), qf, H', ⟨by have := HK1.out; omega⟩, by repeat (first | exact Drawn0.refl _ | apply Drawn0.step)⟩
      ·
       rw [if_neg c5] at H
       have c5b0 : ((rd l0 x8_1) == 0) = false := beq_eq_false_iff_ne.mpr c5
       have c5b1 : ((rd l0 x8_1) != 0) = true := bne_iff_ne.mpr c5
       obtain rfl := Option.some.inj H
       have p315 : 0 ≤ (x8_1 : Int) := qd
       have q315 : x8_1 < (l0.length : Int) := qd
       obtain ⟨ad315, e315, hx315_0⟩ := Kd.at_int HR0.out x8_1 p315 q315
       cases e315
       replace p315 := eq_true p315
       replace q315 := eq_true q315
       go_wp2
       go_ret
       exact ⟨qf, by repeat (first | exact Drawn0.refl _ | apply Drawn0.step)⟩
     ·
      rw [if_neg c4] at H
      exact absurd H (by simp)
    ·
     rw [if_neg c3] at H
     exact absurd H (by simp)
   ·
    rw [if_neg c2] at H
    have c2b0 := decide_eq_false c2
    clear c2
    obtain rfl := Option.some.inj H
    go_wp2
    go_ret
    exact ⟨qf, by repeat (first | exact Drawn0.refl _ | apply Drawn0.step)⟩
/-! ### cmp_isNaN_int: function 89 -/
set_option maxHeartbeats 8000000 in
set_option maxRecDepth 100000 in
theorem cmp_isNaN_int.calls (a0 : Int) (r : Bool) (w : World) (h : cmp_isNaN_int.f a0 = some r) :
  Calls Tryz.prog 89 #[.int .i64 a0] w fun e w' => e = .returned (.bool r) ∧ Drawn0 w w' := by
 have H : (some (a0 != a0)) = some r := h
 clear h
 obtain rfl := Option.some.inj H
 go_enter Tryz.func89, Tryz.ntmps89
 go_wp2
 go_ret
 exact ⟨qf, by repeat (first | exact Drawn0.refl _ | apply Drawn0.step)⟩
/-! ### cmp_Compare_int: function 83 -/
set_option maxHeartbeats 8000000 in
set_option maxRecDepth 100000 in
theorem cmp_Compare_int.calls (a0 : Int) (a1 : Int) (r : Int) (w : World) (h : cmp_Compare_int.f a0 a1 = some r) :
  Calls Tryz.prog 83 #[.int .i64 a0, .int .i64 a1] w fun e w' => e = .returned (.int .i64 r) ∧ Drawn0 w w' := by
 have H : ((cmp_isNaN_int.f a0).bind fun t316 => ((cmp_isNaN_int.f a1).bind fun t317 => (if t316 = true then (if t317 = true then (some 0) else (some (-1))) else (if t317 = true then (some 1) else (if a0 < a1 then (some (-1)) else (if a0 > a1 then (some 1) else (some 0))))))) = some r := h
 clear h
 replace H := qo H
 obtain ⟨t316, A3, H⟩ := H
 replace H : ((cmp_isNaN_int.f a1).bind fun t317 => (if t316 = true then (if t317 = true then (some 0) else (some (-1))) else (if t317 = true then (some 1) else (if a0 < a1 then (some (-1)) else (if a0 > a1 then (some 1) else (some 0)))))) = some r := H
 replace H := qo H
 obtain ⟨t317, A4, H⟩ := H
 replace H : (if t316 = true then (if t317 = true then (some 0) else (some (-1))) else (if t317 = true then (some 1) else (if a0 < a1 then (some (-1)) else (if a0 > a1 then (some 1) else (some 0))))) = some r := H
 by_cases c5 : t316 = true
 ·
  subst c5
  have H1 : (if t317 = true then (some 0) else (some (-1))) = some r := by rw [if_pos rfl] at H; exact H
  clear H
  have H := H1
  clear H1
  by_cases c6 : t317 = true
  ·
   subst c6
   have H1 : (some 0) = some r := by rw [if_pos rfl] at H; exact H
   clear H
   have H := H1
   clear H1
   obtain rfl := Option.some.inj H
   go_enter Tryz.func83, Tryz.ntmps83
   go_wp2_with (first | ((with_reducible refine gate_callee (f := 89) rfl ?_); refine qg 8 Tryz.func89 #[.int .i64 a0] ?_; (with_reducible refine (cmp_isNaN_int.calls a0 true _ A3.out).mono ?_); rintro e w' ⟨rfl, ⟨nd, rfl⟩⟩; refine ⟨_, rfl, ?_⟩) | ((with_reducible refine gate_callee (f := 89) rfl ?_); refine qg 10 Tryz.func89 #[.int .i64 a1] ?_; (with_reducible refine (cmp_isNaN_int.calls a1 true _ A4.out).mono ?_); rintro e w' ⟨rfl, ⟨nd, rfl⟩⟩; refine ⟨_, rfl, ?_⟩))
   go_ret
   exact ⟨qf, by repeat (first | exact Drawn0.refl _ | apply Drawn0.step)⟩
  ·
   replace c6 := Bool.eq_false_iff.mpr c6
   subst c6
   have H1 : (some (-1)) = some r := by rw [if_neg (show ¬ (false = true) by decide)] at H; exact H
   clear H
   have H := H1
   clear H1
   obtain rfl := Option.some.inj H
   go_enter Tryz.func83, Tryz.ntmps83
   go_wp2_with (first | ((with_reducible refine gate_callee (f := 89) rfl ?_); refine qg 8 Tryz.func89 #[.int .i64 a0] ?_; (with_reducible refine (cmp_isNaN_int.calls a0 true _ A3.out).mono ?_); rintro e w' ⟨rfl, ⟨nd, rfl⟩⟩; refine ⟨_, rfl, ?_⟩) | ((with_reducible refine gate_callee (f := 89) rfl ?_); refine qg 10 Tryz.func89 #[.int .i64 a1] ?_; (with_reducible refine (cmp_isNaN_int.calls a1 false _ A4.out).mono ?_); rintro e w' ⟨rfl, ⟨nd, rfl⟩⟩; refine ⟨_, rfl, ?_⟩))
   go_ret
   exact ⟨qf, by repeat (first | exact Drawn0.refl _ | apply Drawn0.step)⟩
 ·
  replace c5 := Bool.eq_false_iff.mpr c5
  subst c5
  have H1 : (if t317 = true then (some 1) else (if a0 < a1 then (some (-1)) else (if a0 > a1 then (some 1) else (some 0)))) = some r := by rw [if_neg (show ¬ (false = true) by decide)] at H; exact H
  clear H
  have H := H1
  clear H1
  by_cases c7 : t317 = true
  ·
   subst c7
   have H1 : (some 1) = some r := by rw [if_pos rfl] at H; exact H
   clear H
   have H := H1
   clear H1
   obtain rfl := Option.some.inj H
   go_enter Tryz.func83, Tryz.ntmps83
   go_wp2_with (first | ((with_reducible refine gate_callee (f := 89) rfl ?_); refine qg 8 Tryz.func89 #[.int .i64 a0] ?_; (with_reducible refine (cmp_isNaN_int.calls a0 false _ A3.out).mono ?_); rintro e w' ⟨rfl, ⟨nd, rfl⟩⟩; refine ⟨_, rfl, ?_⟩) | ((with_reducible refine gate_callee (f := 89) rfl ?_); refine qg 10 Tryz.func89 #[.int .i64 a1] ?_; (with_reducible refine (cmp_isNaN_int.calls a1 true _ A4.out).mono ?_); rintro e w' ⟨rfl, ⟨nd, rfl⟩⟩; refine ⟨_, rfl, ?_⟩))
   go_ret
   exact ⟨qf, by repeat (first | exact Drawn0.refl _ | apply Drawn0.step)⟩
  ·
   replace c7 := Bool.eq_false_iff.mpr c7
   subst c7
   have H1 : (if a0 < a1 then (some (-1)) else (if a0 > a1 then (some 1) else (some 0))) = some r := by rw [if_neg (show ¬ (false = true) by decide)] at H; exact H
   clear H
   have H := H1
   clear H1
   by_cases c8 : a0 < a1
   ·
    rw [if_pos c8] at H
    have c8b0 := decide_eq_true c8
    clear c8
    obtain rfl := Option.some.inj H
    go_enter Tryz.func83, Tryz.ntmps83
    go_wp2_with (first | ((with_reducible refine gate_callee (f := 89) rfl ?_); refine qg 8 Tryz.func89 #[.int .i64 a0] ?_; (with_reducible refine (cmp_isNaN_int.calls a0 false _ A3.out).mono ?_); rintro e w' ⟨rfl, ⟨nd, rfl⟩⟩; refine ⟨_, rfl, ?_⟩) | ((with_reducible refine gate_callee (f := 89) rfl ?_); refine qg 10 Tryz.func89 #[.int .i64 a1] ?_; (with_reducible refine (cmp_isNaN_int.calls a1 false _ A4.out).mono ?_); rintro e w' ⟨rfl, ⟨nd, rfl⟩⟩; refine ⟨_, rfl, ?_⟩))
    go_ret
    exact ⟨qf, by repeat (first | exact Drawn0.refl _ | apply Drawn0.step)⟩
   ·
    rw [if_neg c8] at H
    have c8b0 := decide_eq_false c8
    clear c8
    by_cases c9 : a0 > a1
    ·
     rw [if_pos c9] at H
     have c9b0 := decide_eq_true c9
     clear c9
     obtain rfl := Option.some.inj H
     go_enter Tryz.func83, Tryz.ntmps83
     go_wp2_with (first | ((with_reducible refine gate_callee (f := 89) rfl ?_); refine qg 8 Tryz.func89 #[.int .i64 a0] ?_; (with_reducible refine (cmp_isNaN_int.calls a0 false _ A3.out).mono ?_); rintro e w' ⟨rfl, ⟨nd, rfl⟩⟩; refine ⟨_, rfl, ?_⟩) | ((with_reducible refine gate_callee (f := 89) rfl ?_); refine qg 10 Tryz.func89 #[.int .i64 a1] ?_; (with_reducible refine (cmp_isNaN_int.calls a1 false _ A4.out).mono ?_); rintro e w' ⟨rfl, ⟨nd, rfl⟩⟩; refine ⟨_, rfl, ?_⟩))
     go_ret
     exact ⟨qf, by repeat (first | exact Drawn0.refl _ | apply Drawn0.step)⟩
    ·
     rw [if_neg c9] at H
     have c9b0 := decide_eq_false c9
     clear c9
     obtain rfl := Option.some.inj H
     go_enter Tryz.func83, Tryz.ntmps83
     go_wp2_with (first | ((with_reducible refine gate_callee (f := 89) rfl ?_); refine qg 8 Tryz.func89 #[.int .i64 a0] ?_; (with_reducible refine (cmp_isNaN_int.calls a0 false _ A3.out).mono ?_); rintro e w' ⟨rfl, ⟨nd, rfl⟩⟩; refine ⟨_, rfl, ?_⟩) | ((with_reducible refine gate_callee (f := 89) rfl ?_); refine qg 10 Tryz.func89 #[.int .i64 a1] ?_; (with_reducible refine (cmp_isNaN_int.calls a1 false _ A4.out).mono ?_); rintro e w' ⟨rfl, ⟨nd, rfl⟩⟩; refine ⟨_, rfl, ?_⟩))
     go_ret
     exact ⟨qf, by repeat (first | exact Drawn0.refl _ | apply Drawn0.step)⟩
/-! ### impl_compareTerms: function 64 -/
def impl_compareTerms.T1 : Bool × List (List Nat × List Nat) := (true, [([], []), ([0], [0]), ([], []), ([2], [2]), ([1, 3], [1, 3]), ([], []), ([5], [5]), ([], []), ([7], [7]), ([6, 8, 4], [6, 8]), ([], []), ([10], [10]), ([], []), ([12], [12]), ([11, 13, 9], [11, 13]), ([4, 9, 14], [4, 9, 14]), ([15, 14], [15]), ([16, 16, 0, 1, 2, 3, 4, 5, 6, 7, 8, 9, 10, 11, 12, 13, 14, 15, 16], [16])])
def impl_compareTerms.B1 : List Nat := [0, 1, 0, 4, 15, 0, 32, 0, 128, 511, 0, 1024, 0, 4096, 16383, 32767, 65535, 131071]
theorem impl_compareTerms.tab1 : rtab .any (opsOf Tryz.f64 1) = impl_compareTerms.T1 := by kernel_rfl
theorem impl_compareTerms.bits1 : waitsOk impl_compareTerms.T1.2 impl_compareTerms.B1 = true := by kernel_rfl
set_option maxHeartbeats 8000000 in
set_option maxRecDepth 100000 in
theorem impl_compareTerms.calls (k : Nat) (a0_0 : Int) (a0_1 : Int) (a0_2 : Int) (a0_3 : Int) (a1_0 : Int) (a1_1 : Int) (a1_2 : Int) (a1_3 : Int) (r : Int) (w : World) (h : impl_compareTerms.f k a0_0 a0_1 a0_2 a0_3 a1_0 a1_1 a1_2 a1_3 = some r) :
  Calls Tryz.prog 64 #[.agg #[.int .i64 a0_0, .int .i64 a0_1, .int .i64 a0_2, .int .i64 a0_3], .agg #[.int .i64 a1_0, .int .i64 a1_1, .int .i64 a1_2, .int .i64 a1_3]] w fun e w' => e = .returned (.int .i64 r) ∧ Below w.heap.size w w' := by
 have hu62 := Tryz.underlying62
 have HB := qa (Below.refl w.heap.size w)
 have H : ((cmp_Compare_int.f a0_1 a1_1).bind fun t320 => ((cmp_Compare_int.f a0_2 a1_2).bind fun t321 => ((cmp_Compare_int.f a0_3 a1_3).bind fun t322 => ((cmp_Or_int.f k (([t320, t321, t322] : List Int))).bind fun t326 => (some t326))))) = some r := h
 clear h
 replace H := qo H
 obtain ⟨t320, A3, H⟩ := H
 replace H : ((cmp_Compare_int.f a0_2 a1_2).bind fun t321 => ((cmp_Compare_int.f a0_3 a1_3).bind fun t322 => ((cmp_Or_int.f k (([t320, t321, t322] : List Int))).bind fun t326 => (some t326)))) = some r := H
 replace H := qo H
 obtain ⟨t321, A4, H⟩ := H
 replace H : ((cmp_Compare_int.f a0_3 a1_3).bind fun t322 => ((cmp_Or_int.f k (([t320, t321, t322] : List Int))).bind fun t326 => (some t326))) = some r := H
 replace H := qo H
 obtain ⟨t322, A5, H⟩ := H
 replace H : ((cmp_Or_int.f k (([t320, t321, t322] : List Int))).bind fun t326 => (some t326)) = some r := H
 obtain ⟨y323, hy323⟩ : ∃ y_ : List Int, y_ = (([t320, t321, t322] : List Int)) := ⟨_, rfl⟩
 replace H : ((cmp_Or_int.f k y323).bind fun t326 => (some t326)) = some r := by first | (rw [hy323]; with_reducible exact H) | (have H2_ := (Option.bind_some _ _).symm.trans H; rw [hy323]; with_reducible exact H2_) | (have H2_ := (Option.bind_some _ _).symm.trans H; with_reducible exact H2_) | with_reducible exact H | (rw [hy323]; exact H) | exact H
 have Ny323 := qa hy323
 clear hy323
 replace H := qo H
 obtain ⟨t326, A6, H⟩ := H
 replace H : (some t326) = some r := H
 obtain rfl := Option.some.inj H
 go_enter Tryz.func64, Tryz.ntmps64
 try go_wp2_with (first | ((with_reducible refine gate_dst (N := 2) rfl ?_); refine zbe (N := 2) (cs := #[.int .i64 a0_0, .int .i64 a0_1, .int .i64 a0_2, .int .i64 a0_3]) (t := 62) ?_; intro gb318 hg w7 hbox hb; have BK318 := qa (hbox); have GW318 := qa (zge (zb0 HB) hg); have GE318 := GW318; replace HB := qa (below_step (zb0 HB) hb); clear hb hbox hg) | ((with_reducible refine gate_dst (N := 3) rfl ?_); refine zbe (N := 3) (cs := #[.int .i64 a1_0, .int .i64 a1_1, .int .i64 a1_2, .int .i64 a1_3]) (t := 62) ?_; intro gb319 hg w8 hbox hb; have BK319 := qa (hbox); have GW319 := qa (zge (zb1 HB) hg); have GE319 := GW319; have NB318_319 := qa (zlt BK318 hg); have NB319_318 := qa (zgt BK318 hg); replace BK318 := qa (zbb BK318 hb); replace HB := qa (below_step (zb1 HB) hb); clear hb hbox hg))
 replace BK318 := qa (blk_drew BK318.out); replace BK319 := qa (blk_drew BK319.out); replace HB := qa (below_drew1 HB.out)
 refine start_ (n := 18) (S := fun w' => w'.cell? ⟨gb318, 0, none⟩ = some (.int .i64 a0_0) ∧ w'.cell? ⟨gb318, 1, none⟩ = some (.int .i64 a0_1) ∧ w'.cell? ⟨gb318, 2, none⟩ = some (.int .i64 a0_2) ∧ w'.cell? ⟨gb318, 3, none⟩ = some (.int .i64 a0_3) ∧ w'.cell? ⟨gb319, 0, none⟩ = some (.int .i64 a1_0) ∧ w'.cell? ⟨gb319, 1, none⟩ = some (.int .i64 a1_1) ∧ w'.cell? ⟨gb319, 2, none⟩ = some (.int .i64 a1_2) ∧ w'.cell? ⟨gb319, 3, none⟩ = some (.int .i64 a1_3)) (ds := []) (bn 18 0) (by kernel_rfl) rfl rfl ⟨zc BK318 0, zc BK318 1, zc BK318 2, zc BK318 3, zc BK319 0, zc BK319 1, zc BK319 2, zc BK319 3⟩ (fun hHeld => ?_); refine with_tabW impl_compareTerms.tab1 impl_compareTerms.bits1 (fun HT_ HW_ => ?_)
 generalize w8.drew = w9 at BK318 BK319 HB hHeld ⊢
 refine qp 0 5 18 1 HT_ ?_
 refine qp 2 7 18 5 HT_ ?_
 refine qp 5 10 18 37 HT_ ?_
 refine qp 7 12 18 165 HT_ ?_
 refine qp 10 15 18 1189 HT_ ?_
 refine qp 12 17 18 5285 HT_ ?_
 refine qk 1 6 18 5287 HT_ HW_ hHeld ?_
 refine qk 3 8 18 5295 HT_ HW_ hHeld ?_
 refine qk 6 11 18 5359 HT_ HW_ hHeld ?_
 refine qk 8 13 18 5615 HT_ HW_ hHeld ?_
 refine qk 11 16 18 7663 HT_ HW_ hHeld ?_
 refine qk 13 18 18 15855 HT_ HW_ hHeld ?_
 refine one_ (i := 4) (N := some 9) (bn 18 15871) rfl rfl (one_of HT_.out (by kernel_rfl)) (by decide) (fun K hK => ?_)
 refine goes_ Tryz.func83 (by kernel_rfl) rfl #[.int .i64 a0_1, .int .i64 a1_1] (by rfl) rfl rfl zq6 ?_
 with_reducible refine (cmp_Compare_int.calls a0_1 a1_1 t320 _ A3.out).mono ?_
 rintro e w' ⟨rfl, ⟨nd, rfl⟩⟩
 refine ⟨_, rfl, ?_⟩
 refine hK.out _ _ ⟨zc BK318 0, zc BK318 1, zc BK318 2, zc BK318 3, zc BK319 0, zc BK319 1, zc BK319 2, zc BK319 3⟩ (fun hHeld => ?_)
 clear hK K
 refine qt ?_
 refine one_ (i := 9) (N := some 14) (bn 18 16383) rfl rfl (one_of HT_.out (by kernel_rfl)) (by decide) (fun K hK => ?_)
 refine goes_ Tryz.func83 (by kernel_rfl) rfl #[.int .i64 a0_2, .int .i64 a1_2] (by rfl) rfl rfl zq6 ?_
 with_reducible refine (cmp_Compare_int.calls a0_2 a1_2 t321 _ A4.out).mono ?_
 rintro e w' ⟨rfl, ⟨nd, rfl⟩⟩
 refine ⟨_, rfl, ?_⟩
 refine hK.out _ _ ⟨zc BK318 0, zc BK318 1, zc BK318 2, zc BK318 3, zc BK319 0, zc BK319 1, zc BK319 2, zc BK319 3⟩ (fun hHeld => ?_)
 clear hK K
 refine qt ?_
 refine one_ (i := 14) (N := some 19) (bn 18 32767) rfl rfl (one_of HT_.out (by kernel_rfl)) (by decide) (fun K hK => ?_)
 refine goes_ Tryz.func83 (by kernel_rfl) rfl #[.int .i64 a0_3, .int .i64 a1_3] (by rfl) rfl rfl zq6 ?_
 with_reducible refine (cmp_Compare_int.calls a0_3 a1_3 t322 _ A5.out).mono ?_
 rintro e w' ⟨rfl, ⟨nd, rfl⟩⟩
 refine ⟨_, rfl, ?_⟩
 refine hK.out _ _ ⟨zc BK318 0, zc BK318 1, zc BK318 2, zc BK318 3, zc BK319 0, zc BK319 1, zc BK319 2, zc BK319 3⟩ (fun hHeld => ?_)
 clear hK K
 refine qt ?_
 refine one_ (i := 15) (N := some 20) (bn 18 65535) rfl rfl (one_of HT_.out (by kernel_rfl)) (by decide) (fun K hK => ?_)
 refine Kd.R_lit_step (Kd.int .i64) _ 3 ?hg (N := 20) ?hd (xs := ([t320, t321, t322] : List Int)) (inner := [.int .i64 t320, .int .i64 t321, .int .i64 t322]) (ok := fun _ => True) (okp := fun _ => True) ?hr ?hp (fun _ hk => hk) trivial (Below.refl _ _) (Nat.le_refl _) (by simp) ?_; (case hd => rfl); (case hg => rfl); (case hr => first | (go_simp; done) | (go_simp; rfl)); (case hp => exact (Reps.one (show Kd.M (Kd.int .i64) _ _ _ t320 [.int .i64 t320] from rfl) (Reps.one (show Kd.M (Kd.int .i64) _ _ _ t321 [.int .i64 t321] from rfl) (Reps.one (show Kd.M (Kd.int .i64) _ _ _ t322 [.int .i64 t322] from rfl) (Reps.none _ _)))))
 intro v324 w10 ho11 hb hg_ hnew_
 clear hg_ hnew_
 (first | rw [← Ny323.out] at ho11 | (simp only [Int.reduceToNat] at ho11; rw [← Ny323.out] at ho11))
 have HO325 := qa (Kd.R_lower ho11 (below_size (zb1 HB)))
 have n1_ := qa (zbb BK318 hb)
 have n2_ := qa (zbb BK319 hb)
 have n3_ := qa (below_step (zb1 HB) hb)
 clear BK318 BK319 HB
 have BK318 := n1_; have BK319 := n2_; have HB := n3_
 clear n1_ n2_ n3_ hb ho11
 obtain ⟨Ao12, co12, eo12⟩ := Kd.R_slice HO325.out
 (first | subst eo12 | (injection eo12 with f1_ f2_ f3_; have f4_ := f1_.symm; have f5_ := f3_.symm; clear f1_ f2_ f3_; subst f4_; subst f5_))
 refine hK.out _ _ ⟨zc BK318 0, zc BK318 1, zc BK318 2, zc BK318 3, zc BK319 0, zc BK319 1, zc BK319 2, zc BK319 3⟩ (fun hHeld => ?_)
 clear hK K
 refine qt ?_
 refine one_ (i := 16) (N := some 21) (bn 18 131071) rfl rfl (one_of HT_.out (by kernel_rfl)) (by decide) (fun K hK => ?_)
 refine goes_ Tryz.func82 (by kernel_rfl) rfl #[.slice Ao12 y323.length co12] (by rfl) rfl rfl zq6 ?_
 with_reducible refine (cmp_Or_int.calls k _ _ y323 t326 _ ?side1 ?side2 A6.out).mono ?_
 (case side1 => repeat (first | exact (Kd.R_reads' HO325.out).2.2 | (with_reducible refine Kd.C_alloc ?_ _) | (with_reducible refine Kd.C_drewN ?_ _) | (with_reducible refine Kd.C_drew ?_)))
 (case side2 => exact (Kd.R_reads' HO325.out).2.1)
 rintro e w' ⟨rfl, ⟨nd, rfl⟩⟩
 refine ⟨_, rfl, ?_⟩
 refine hK.out _ _ ⟨zc BK318 0, zc BK318 1, zc BK318 2, zc BK318 3, zc BK319 0, zc BK319 1, zc BK319 2, zc BK319 3⟩ (fun hHeld => ?_)
 clear hK K
 refine qt ?_
 refine qp 17 4 18 262143 HT_ ?_
 refine done_ (done_of HT_.out (by kernel_rfl)) ?_
 try go_wp2
 go_ret
 exact ⟨by first | rfl | (simp [errW_none, errW_some] <;> rfl) | (simp [*, errW_none, errW_some] <;> rfl), (zb1 HB)⟩
/-! ### slices_Equal_int_int: function 31 -/
set_option maxHeartbeats 8000000 in
set_option maxRecDepth 100000 in
theorem slices_Equal_int_int.calls (k : Nat) (A0 : Option Addr) (c0 : Nat) (l0 : List Int) (A1 : Option Addr) (c1 : Nat) (l1 : List Int) (r : Bool) (w : World) (hr0 : Kd.C (Kd.int .i64) w A0 l0.length l0) (hc0 : l0.length ≤ c0) (hr1 : Kd.C (Kd.int .i64) w A1 l1.length l1) (hc1 : l1.length ≤ c1) (h : slices_Equal_int_int.f k l0 l1 = some r) :
  Calls Tryz.prog 31 #[.slice A0 l0.length c0, .slice A1 l1.length c1] w fun e w' => e = .returned (.bool r) ∧ Drawn0 w w' := by
 have HR0 := qa hr0
 have HC0 := qa hc0
 clear hr0 hc0
 have HR1 := qa hr1
 have HC1 := qa hc1
 clear hr1 hc1
 have H : (if (l0.length : Int) = (l1.length : Int) then (slices_Equal_int_int.l0 k l0 l1 (l0.length : Int) 0) else (some false)) = some r := h
 clear h
 by_cases c3 : (l0.length : Int) = (l1.length : Int)
 ·
  rw [if_pos c3] at H
  have c3b0 : ((l0.length : Int) == (l1.length : Int)) = true := beq_iff_eq.mpr c3
  have c3b1 : ((l0.length : Int) != (l1.length : Int)) = false := bne_eq_false_iff_eq.mpr c3
  have c3b2 : (l0.length == l1.length) = true := by first | simpa using c3 | (simp at c3 ⊢; omega)
  clear c3
  have H' := qa H
  clear H
  go_enter Tryz.func31, Tryz.ntmps31
  go_wp2
  repeat (go_quiet (fail); try go_wp2)
  go_loopg [13] k (fun kq v13 w' => ∃ (x13_1 : Int), v13 = .int .i64 x13_1 ∧ Aside0 (slices_Equal_int_int.l0 kq l0 l1 (l0.length : Int) x13_1 = some r) ∧ Aside0 (kq ≤ k) ∧ Drawn0 w w')
  case atStart => exact ⟨(0), qf, H', ⟨Nat.le_refl _⟩, by repeat (first | exact Drawn0.refl _ | apply Drawn0.step)⟩
  case round =>
   clear H'
   try clear c1
   try clear p2
   try clear c3
   try clear c3b0
   try clear c3b1
   try clear c3b2
   obtain ⟨x13_1, rfl, HA, HK1, ⟨m1, rfl⟩⟩ := hrel
   cases gk with
   | zero => exact absurd HA.out (by simp [slices_Equal_int_int.l0])
   | succ k1 =>
    have H := HA.out
    clear HA
    simp only [slices_Equal_int_int.l0] at H
    by_cases c4 : x13_1 < (l0.length : Int)
    ·
     rw [if_pos c4] at H
     have c4b0 := decide_eq_true c4
     clear c4
     by_cases c5 : 0 ≤ x13_1
     ·
      rw [if_pos c5] at H
      have c5b0 := decide_eq_true c5
      clear c5
      by_cases c6 : x13_1 < (l0.length : Int)
      ·
       rw [if_pos c6] at H
       have c6b0 := decide_eq_true c6
       clear c6
       by_cases c7 : x13_1 < (l1.length : Int)
       ·
        rw [if_pos c7] at H
        have c7b0 := decide_eq_true c7
        clear c7
        by_cases c8 : (rd l0 x13_1) = (rd l1 x13_1)
        ·
         rw [if_pos c8] at H
         have c8b0 : ((rd l0 x13_1) == (rd l1 x13_1)) = true := beq_iff_eq.mpr c8
         have c8b1 : ((rd l0 x13_1) != (rd l1 x13_1)) = false := bne_eq_false_iff_eq.mpr c8
         clear c8
         have H' := qa H
         clear H
         have p333 : 0 ≤ (x13_1 : Int) := qd
         have q333 : x13_1 < (l0.length : Int) := qd
         obtain ⟨ad333, e333, hx333_0⟩ := Kd.at_int HR0.out x13_1 p333 q333
         cases e333
         replace p333 := eq_true p333
         replace q333 := eq_true q333
         have p334 : 0 ≤ (x13_1 : Int) := qd
         have q334 : x13_1 < (l1.length : Int) := qd
         obtain ⟨ad334, e334, hx334_0⟩ := Kd.at_int HR1.out x13_1 p334 q334
         cases e334
         replace p334 := eq_true p334
         replace q334 := eq_true q334
         go_wp2
         repeat (go_quiet (fail); try go_wp2)
         go_roundg k1
         case measure => have := HK1.out; omega
         case rel => exact ⟨(wrap64 (x13_1 + 1)), qf, H', ⟨by have := HK1.out; omega⟩, by repeat (first | exact Drawn0.refl _ | apply Drawn0.step)⟩
        ·
         rw [if_neg c8] at H
         have c8b0 : ((rd l0 x13_1) == (rd l1 x13_1)) = false := beq_eq_false_iff_ne.mpr c8
         have c8b1 : ((rd l0 x13_1) != (rd l1 x13_1)) = true := bne_iff_ne.mpr c8
         obtain rfl := Option.some.inj H
         have p333 : 0 ≤ (x13_1 : Int) := qd
         have q333 : x13_1 < (l0.length : Int) := qd
         obtain ⟨ad333, e333, hx333_0⟩ := Kd.at_int HR0.out x13_1 p333 q333
         cases e333
         replace p333 := eq_true p333
         replace q333 := eq_true q333
         have p334 : 0 ≤ (x13_1 : Int) := qd
         have q334 : x13_1 < (l1.length : Int) := qd
         obtain ⟨ad334, e334, hx334_0⟩ := Kd.at_int HR1.out x13_1 p334 q334
         cases e334
         replace p334 := eq_true p334
         replace q334 := eq_true q334
         go_wp2
         repeat (go_quiet (fail); try go_wp2)
         go_ret
         exact ⟨qf, by repeat (first | exact Drawn0.refl _ | apply Drawn0.step)⟩
       ·
        rw [if_neg c7] at H
        exact absurd H (by simp)
      ·
       rw [if_neg c6] at H
       exact absurd H (by simp)
     ·
      rw [if_neg c5] at H
      exact absurd H (by simp)
    ·
     rw [if_neg c4] at H
     have c4b0 := decide_eq_false c4
     clear c4
     obtain rfl := Option.some.inj H
     go_wp2
     repeat (go_quiet (fail); try go_wp2)
     go_ret
     exact ⟨qf, by repeat (first | exact Drawn0.refl _ | apply Drawn0.step)⟩
 ·
  rw [if_neg c3] at H
  have c3b0 : ((l0.length : Int) == (l1.length : Int)) = false := beq_eq_false_iff_ne.mpr c3
  have c3b1 : ((l0.length : Int) != (l1.length : Int)) = true := bne_iff_ne.mpr c3
  have c3b2 : (l0.length == l1.length) = false := by first | simpa using c3 | (simp at c3 ⊢; omega)
  obtain rfl := Option.some.inj H
  go_enter Tryz.func31, Tryz.ntmps31
  go_wp2
  repeat (go_quiet (fail); try go_wp2)
  go_ret
  exact ⟨qf, by repeat (first | exact Drawn0.refl _ | apply Drawn0.step)⟩
/-! ### cmp_Less_int: function 96 -/
end Go.Proofs.YthanmlojikidbaaGreat.PD
