-- By wip/mk/drv.py
import Derived.Test.YthanmlojikidbaaProg
import Derived.Test.YthanmlojikidbaaQExchnsCol
import Derived.Below
import Derived.Deep.Draws
import Derived.Deep.AppendLies
import Derived.Maps.AppendAt
import Derived.OwnWalk
import Derived.Laws.BytesArg
import Derived.Laws.MakeOwn
import Derived.Laws.OwnMore
import Derived.Deep.OwnRows
import Derived.Tactics
import Derived.Lib.ConvBytes
import Derived.Laws.Slices
import Derived.WalkKit
import Derived.KernelRfl
import Derived.RowKit3
import Derived.Deep.LoopGhost
import Derived.Deep.QuietTactic
import Derived.BigQuiet
import Derived.WideLaws
import Derived.Deep.DeepCutAuto
import Derived.Deep.CutBlock
import Derived.Deep.RegionHeld3
import Derived.Laws.Rows
import Derived.Lib.AppendStr
import Derived.Lib.SliceRun
import Derived.Lib.AppendZeros
import Derived.ArgAppend
import Derived.Laws.IdiomCopy
import Derived.OrdersHeld
import Derived.Laws.BitsLemmas
import Derived.RowKit
import Derived.Laws.Externs
import Derived.Shelf.Spec.BitsCarry
import Derived.Test.YthanmlojikidbaaQExchnsW
import Derived.Laws.StructEq
namespace Go.Proofs.Ythanmlojikidbaa.PD
open Go.RowKit Go.Proofs.YthanmlojikidbaaW.PrintWords Go.Proofs.YthanmlojikidbaaW.PrintLast Go.Proofs.YthanmlojikidbaaW.PrintMore
attribute [local go_sem] max2_int min2_int max_two min_two max_three min_three max_four min_four
set_option linter.unusedVariables false
set_option linter.unusedSimpArgs false
def errW : Option Int → Value
  | none => .nilIface
  | some c => .iface 0 (.int .i64 c)
theorem errW_none : errW none = .nilIface := rfl
theorem errW_some (c : Int) : errW (some c) = .iface 0 (.int .i64 c) := rfl
theorem info3 : (Try.prog.info? 3).map (fun i => (i.zero, i.size, i.bytes)) = some (some (.int .i64 0), 1, 8) := by kernel_rfl
theorem info51 : (Try.prog.info? 51).map (fun i => (i.zero, i.size, i.bytes)) = some (some (.agg #[(.int .i64 0), (.int .i64 0), (.int .i64 0), (.int .i64 0)]), 4, 32) := by kernel_rfl
-- the values' own types
/-! #### struct type 53 -/
structure S53 where
  f0 : Int
  f1 : Int
  f2 : Int
  f3 : Int
def z53 : S53 := ⟨(0 : Int), (0 : Int), (0 : Int), (0 : Int)⟩
def k53 : Kd S53 := Kd.iso (Kd.pair (Kd.int .i64) (Kd.pair (Kd.int .i64) (Kd.pair (Kd.int .i64) (Kd.int .i64)))) (fun x : S53 => (x.f0, x.f1, x.f2, x.f3))
theorem k53_open {w : World} {x : S53} {cs : List Value} (h : k53.K w x cs) : cs = [.int .i64 x.f0, .int .i64 x.f1, .int .i64 x.f2, .int .i64 x.f3] := by
  obtain ⟨_, _, rfl, rfl, ⟨_, _, rfl, rfl, ⟨_, _, rfl, rfl, rfl⟩⟩⟩ := h
  exact rfl
def rd_T53 (xs : List S53) (i : Int) : S53 := xs.getD i.toNat z53
theorem at_T53 {w : World} {A : Option Addr} {n : Nat} {xs : List S53} (h : Kd.C k53 w A n xs) (i : Int) (h0 : 0 ≤ i) (h1 : i < n) : ∃ ad , A = some ad ∧ w.cell? (ad.add (i.toNat * 4)) = some (.int .i64 (rd_T53 xs i).f0) ∧ w.cell? ⟨(ad.add (i.toNat * 4)).block, (ad.add (i.toNat * 4)).off + 1, none⟩ = some (.int .i64 (rd_T53 xs i).f1) ∧ w.cell? ⟨(ad.add (i.toNat * 4)).block, (ad.add (i.toNat * 4)).off + 2, none⟩ = some (.int .i64 (rd_T53 xs i).f2) ∧ w.cell? ⟨(ad.add (i.toNat * 4)).block, (ad.add (i.toNat * 4)).off + 3, none⟩ = some (.int .i64 (rd_T53 xs i).f3) := by
  obtain ⟨ad, c, e, _, hK, hc0⟩ := Kd.C_get h z53 i h0 h1
  have hc : ∀ j u, c[j]? = some u → w.cell? (ad.add (i.toNat * 4 + j)) = some u := hc0
  obtain rfl := k53_open hK
  exact ⟨ad, e, hc 0 _ rfl, by rw [← add_field _ _ 1 (by omega)]; exact hc 1 _ rfl, by rw [← add_field _ _ 2 (by omega)]; exact hc 2 _ rfl, by rw [← add_field _ _ 3 (by omega)]; exact hc 3 _ rfl⟩
/-! #### struct type 51 -/
structure S51 where
  f0 : Int
  f1 : Int
  f2 : Int
  f3 : Int
def z51 : S51 := ⟨(0 : Int), (0 : Int), (0 : Int), (0 : Int)⟩
def k51 : Kd S51 := Kd.iso (Kd.pair (Kd.int .i64) (Kd.pair (Kd.int .i64) (Kd.pair (Kd.int .i64) (Kd.int .i64)))) (fun x : S51 => (x.f0, x.f1, x.f2, x.f3))
theorem k51_open {w : World} {x : S51} {cs : List Value} (h : k51.K w x cs) : cs = [.int .i64 x.f0, .int .i64 x.f1, .int .i64 x.f2, .int .i64 x.f3] := by
  obtain ⟨_, _, rfl, rfl, ⟨_, _, rfl, rfl, ⟨_, _, rfl, rfl, rfl⟩⟩⟩ := h
  exact rfl
theorem k51_openM {w : World} {base : Nat} {ok : Nat → Prop} {x : S51} {cs : List Value} (h : k51.M w base ok x cs) : cs = [.int .i64 x.f0, .int .i64 x.f1, .int .i64 x.f2, .int .i64 x.f3] := by
  obtain ⟨_, _, rfl, rfl, ⟨_, _, rfl, rfl, ⟨_, _, rfl, rfl, rfl⟩⟩⟩ := h
  exact rfl
theorem k51_mkM (w : World) (base : Nat) (ok : Nat → Prop) (x : S51)  : k51.M w base ok x [.int .i64 x.f0, .int .i64 x.f1, .int .i64 x.f2, .int .i64 x.f3] := ⟨[.int .i64 x.f0], [.int .i64 x.f1, .int .i64 x.f2, .int .i64 x.f3], rfl, rfl, ⟨[.int .i64 x.f1], [.int .i64 x.f2, .int .i64 x.f3], rfl, rfl, ⟨[.int .i64 x.f2], [.int .i64 x.f3], rfl, rfl, rfl⟩⟩⟩
def rd_T51 (xs : List S51) (i : Int) : S51 := xs.getD i.toNat z51
theorem at_T51 {w : World} {A : Option Addr} {n : Nat} {xs : List S51} (h : Kd.C k51 w A n xs) (i : Int) (h0 : 0 ≤ i) (h1 : i < n) : ∃ ad , A = some ad ∧ w.cell? (ad.add (i.toNat * 4)) = some (.int .i64 (rd_T51 xs i).f0) ∧ w.cell? ⟨(ad.add (i.toNat * 4)).block, (ad.add (i.toNat * 4)).off + 1, none⟩ = some (.int .i64 (rd_T51 xs i).f1) ∧ w.cell? ⟨(ad.add (i.toNat * 4)).block, (ad.add (i.toNat * 4)).off + 2, none⟩ = some (.int .i64 (rd_T51 xs i).f2) ∧ w.cell? ⟨(ad.add (i.toNat * 4)).block, (ad.add (i.toNat * 4)).off + 3, none⟩ = some (.int .i64 (rd_T51 xs i).f3) := by
  obtain ⟨ad, c, e, _, hK, hc0⟩ := Kd.C_get h z51 i h0 h1
  have hc : ∀ j u, c[j]? = some u → w.cell? (ad.add (i.toNat * 4 + j)) = some u := hc0
  obtain rfl := k51_open hK
  exact ⟨ad, e, hc 0 _ rfl, by rw [← add_field _ _ 1 (by omega)]; exact hc 1 _ rfl, by rw [← add_field _ _ 2 (by omega)]; exact hc 2 _ rfl, by rw [← add_field _ _ 3 (by omega)]; exact hc 3 _ rfl⟩
/-- A fact of a block, at a later world. -/
theorem zq1 {P Q : Prop} (h : Aside0 Q) (f : Q → P := by intro h_; (with_reducible repeat (first | refine blk_drewN ?_ _ | refine blk_drew ?_ | refine blk_alloc ?_ _)); exact h_) : P := f h.out
/-- A row's fact, at a later world. -/
theorem zq3 {P Q : Prop} (h : Aside0 Q) (f : Q → P := by intro h_; (with_reducible repeat (first | apply Kd.R_alloc | apply Kd.R_drewN | apply Kd.R_drew)); exact h_) : P := f h.out
/-- A fact of a block, behind stores elsewhere. -/
theorem zq5 {P Q : Prop} (h : Aside0 Q) (f : Q → P := by intro h_; repeat (first | (with_reducible first | exact h_ | refine blk_drewN ?_ _ | refine blk_drew ?_ | refine blk_alloc ?_ _ | refine blk_far ?_ (Aside0.out (by assumption)) _) | exact h_)) : P := f h.out
/-- A new block is none of the elder ones. -/
theorem zlt {w w1 : World} {g gb : Nat} {o : Obj} (h : Aside0 (w.heap[g]? = some o)) (hg : gb = w1.heap.size) (k : w.heap[g]? = some o → w1.heap[g]? = some o := by intro h_; (with_reducible repeat (first | refine blk_drewN ?_ _ | refine blk_drew ?_ | refine blk_alloc ?_ _)); exact h_) : g ≠ gb := by rw [hg]; exact Nat.ne_of_lt (blk_lt (k h.out))
theorem zgt {w w1 : World} {g gb : Nat} {o : Obj} (h : Aside0 (w.heap[g]? = some o)) (hg : gb = w1.heap.size) (k : w.heap[g]? = some o → w1.heap[g]? = some o := by intro h_; (with_reducible repeat (first | refine blk_drewN ?_ _ | refine blk_drew ?_ | refine blk_alloc ?_ _)); exact h_) : gb ≠ g := by rw [hg]; exact Nat.ne_of_gt (blk_lt (k h.out))
/-- A fact of a block, behind a call. -/
theorem zbb {w w1 w2 : World} {g B : Nat} {o : Obj} (h : Aside0 (w.heap[g]? = some o)) (hb : Below B w1 w2) (hB : B = w1.heap.size := by rfl) (k : w.heap[g]? = some o → w1.heap[g]? = some o := by intro h_; (with_reducible repeat (first | refine blk_drewN ?_ _ | refine blk_drew ?_ | refine blk_alloc ?_ _)); exact h_) : w2.heap[g]? = some o := by subst hB; exact blk_below (k h.out) hb
theorem zc {w : World} {g : Nat} {t : TypeId} {cs : Array Value} (h : Aside0 (w.heap[g]? = some (.cells cs t (0, 0)))) (i : Nat) {v : Value} (e : cs[i]? = some v := by rfl) : w.cell? ⟨g, i, none⟩ = some v := (blk_cell h.out i).trans e
theorem zge {w w1 : World} {gb : Nat} (h : Below w.heap.size w w1) (hg : gb = w1.heap.size) : w.heap.size ≤ gb := by rw [hg]; exact h.size
theorem zq6 {α : Type} {a b : α} (h : a = b := by (try simp only [List.map_toArray, List.map_cons, List.map_nil]); first | done | rfl | (simp only [List.length_drop, List.length_take]; rfl)) : a = b := h
/-- An operation that yields in every world, taken first: its own proofs by default. -/
theorem zp {P : Program} {md : Region.Mode} {ops : Array Oper} {Q : Exit → Act → World → Prop} {S : World → Prop} {ds : List Nat} {i : Nat} {N : Option Tmp} {oi : Oper} {v : Value} {fuel : Nat} {l : Array Bool} {a a' : Act} {w : World} (l' : Array Bool) (hc : anyB md ops l l' i = true)
    (h : wpAnyLast P md ops Q S ds fuel l' a' w) (hi : ops[i]? = some oi := by rfl) (hN : oi.dst = N := by rfl) (hg : Region.wanted oi (yielded ops a.tmps) = true := by rfl)
    (hy : ∀ w', (execOp a.eval oi).run P w' = .ok (.value v) w' := by intro w'; go_simp; with_reducible rfl) (ha : a.put N v = a' := by simp only [Act.put, List.setIfInBounds_toArray, List.set_cons_zero, List.set_cons_succ, i64_w, i32_w]; rfl)
    (hQ : ∀ c a w, Q (.panic c) (a.put oi.dst v) w → Q (.panic c) a w := by exact fun _ _ _ h => h) : wpAnyLast P md ops Q S ds (fuel + 1) l a w := pure_ l' hi hN hc hQ (Or.inl ⟨hg, hy⟩) ha h
theorem zbe {P : Program} {ops : Array Oper} {rest : List Oper} {o : Oper} {a : Act} {Q : Exit → Act → World → Prop} {W : World} {N : Tmp} {cs : Array Value} {t : TypeId}
    (h : ∀ g, g = W.heap.size → ∀ w1, w1.heap[g]? = some (.cells cs t (0, 0)) → Below W.heap.size W w1 → wpList P ops Q rest (a.put o.dst (.pointer (some ⟨g, 0, none⟩))) w1) (hd : o.dst = some N := by rfl) (hgd : o.guard = none := by rfl)
    (hrun : (execOp a.eval o).run P W = .ok (.value (.pointer (some ⟨W.heap.size, 0, none⟩))) (W.alloc (.cells cs t (0, 0))) := by first | (go_simp; done) | (go_simp; rfl)) : wpList P ops Q (o :: rest) a W := box_event hgd hd hrun h
theorem zb0 {w W0 W1 : World} {B : Nat} (h : Aside0 (Below B w W0)) (f : Below B w W0 → Below B w W1 := by intro h_; repeat (first | (with_reducible first | exact h_ | apply below_alloc | apply pw_below_drewN | apply below_drew1) | exact h_)) : Below B w W1 := f h.out
theorem zb1 {w W0 W1 : World} {B : Nat} (h : Aside0 (Below B w W0)) (f : Below B w W0 → Below B w W1 := by intro h_; repeat (first | (with_reducible first | exact h_ | apply below_alloc | apply pw_below_drewN | apply below_drew1 | refine below_set ?_ (Aside0.out (by assumption))) | exact h_)) : Below B w W1 := f h.out
/-! a made slice's spare cells -/
/-- The slice up to N elements. -/
def relen (v : Value) (N : Nat) : Value := match v with | .slice A _ c => .slice A N c | v => v
def room (n : Nat) : Nat := if n % 6 = 5 then 0 else if n % 3 = 0 then 1 else n
/-- A list with the spare cells behind it. -/
def flb {α : Type} (z : α) (b : Bool) (l : List α) : List α := l ++ (if b = true ∧ l = [] then [] else List.replicate (room l.length) z)
theorem flb_len {α : Type} (z : α) (l : List α) : (flb z false l).length = l.length + room l.length := by unfold flb; rw [if_neg (by simp)]; simp
def filInt : Int := -7000000000000000101
theorem cut_cap {P : Program} (t e : TypeId) (kh : IntKind) {i : TypeInfo} (ht : P.underlying t = some (.slice e)) (hi : P.info? e = some i) (A : Option Addr) (n c : Nat) (j : Int) (m : Nat) (hj : j = (m : Int)) (hm : m ≤ c) :
    ∀ W : World, (Instr.slice t (.slice A n c) none (some (.int kh j)) none).run P W = .ok (.slice A m c) W := by
  intro W
  have hel : P.elem t = e := by simp [Program.elem, ht]
  have hu : P.underlying t = some (.slice (P.elem t)) := by rw [hel]; exact ht
  have ha : (A.map fun x => x.add 0) = A := by cases A <;> simp [Addr.add]
  rw [run_slice_h W t A n c hu kh j (by omega) (by omega), hel]
  subst hj
  simp [sizeOf, typeInfo, hi, sliced, Result.andThen, ha]
/-- What a loop that copies has done. -/
def Cop {α : Type} (l x : List α) (i : Int) : Prop := 0 ≤ i ∧ i ≤ l.length ∧ x.length = l.length + room l.length ∧ x.length ≤ 35184372088832 ∧ x.take i.toNat = l.take i.toNat
def Fil {α : Type} (z : α) (l x : List α) (i : Int) : Prop := (l.length : Int) ≤ i ∧ i ≤ x.length ∧ x.length = l.length + room l.length ∧ x.length ≤ 35184372088832 ∧ x.take i.toNat = l ++ List.replicate (i.toNat - l.length) z
theorem Cop.start {α : Type} {l x : List α} {z : α} {t j : Int} (hx : x = List.replicate j.toNat z) (hj : wrap64 ((l.length : Int) + t) = j) (ht : t = (room l.length : Int)) (hm : j.toNat ≤ 35184372088832) (h0 : 0 ≤ j) (hl : l.length ≤ 9223372036854775807) : Cop l x 0 := by
  subst ht
  have hr : room l.length ≤ l.length + 1 := by unfold room; split <;> (try split) <;> omega
  have : j = (l.length : Int) + (room l.length : Int) := by
    rw [← hj] at h0 hm ⊢
    unfold wrap64 at *
    omega
  refine ⟨by omega, by omega, ?_, ?_, by simp⟩
  · rw [hx, List.length_replicate]; omega
  · rw [hx, List.length_replicate]; omega
theorem Cop.step {α : Type} {l x y : List α} {i : Int} {d : α} (h : Cop l x i) (hi : i < l.length) (hy : y = x.set i.toNat (l.getD i.toNat d)) : Cop l y (wrap64 (i + 1)) := by
  obtain ⟨h0, h1, h2, h3, h4⟩ := h
  have hw : wrap64 (i + 1) = i + 1 := by unfold wrap64; omega
  rw [hw]
  subst hy
  obtain ⟨n, rfl⟩ := Int.eq_ofNat_of_zero_le h0
  have hn : n < l.length := by omega
  have hnx : n < x.length := by omega
  refine ⟨by omega, by omega, by rw [List.length_set]; omega, by rw [List.length_set]; omega, ?_⟩
  rw [show ((n : Int) + 1).toNat = n + 1 by omega, Int.toNat_natCast] at *
  rw [List.take_succ_eq_append_getElem (by rw [List.length_set]; omega), List.take_succ_eq_append_getElem hn, List.take_set_of_le (Nat.le_refl _), h4]
  simp [List.getD_eq_getElem?_getD, List.getElem?_eq_getElem hn]
theorem Cop.fil {α : Type} {z : α} {l x : List α} {i : Int} (h : Cop l x i) (hi : ¬ i < l.length) : Fil z l x (l.length : Int) := by
  obtain ⟨h0, h1, h2, h3, h4⟩ := h
  have : i = l.length := by omega
  subst this
  refine ⟨by omega, by omega, h2, h3, ?_⟩
  rw [Int.toNat_natCast] at *
  rw [h4]; simp
theorem Fil.step {α : Type} {z : α} {l x y : List α} {i : Int} (h : Fil z l x i) (hi : i < x.length) (hy : y = x.set i.toNat z) : Fil z l y (wrap64 (i + 1)) := by
  obtain ⟨h0, h1, h2, h3, h4⟩ := h
  have hw : wrap64 (i + 1) = i + 1 := by unfold wrap64; omega
  rw [hw]
  subst hy
  obtain ⟨n, rfl⟩ := Int.eq_ofNat_of_zero_le (show 0 ≤ i by omega)
  have hnx : n < x.length := by omega
  refine ⟨by omega, by rw [List.length_set]; omega, by rw [List.length_set]; omega, by rw [List.length_set]; omega, ?_⟩
  rw [show ((n : Int) + 1).toNat = n + 1 by omega, Int.toNat_natCast] at *
  rw [List.take_succ_eq_append_getElem (by rw [List.length_set]; omega), List.take_set_of_le (Nat.le_refl _), h4, List.getElem_set_self, List.append_assoc, ← List.replicate_succ', show n - l.length + 1 = n + 1 - l.length by omega]
theorem Fil.done {α : Type} {z : α} {l x y : List α} {i : Int} {b : Bool} (h : Fil z l x i) (hi : ¬ i < x.length) (hy : y = x.take ((l.length : Int) : Int).toNat) (hb : ¬ (b = true ∧ l = [])) : y = l ∧ flb z b y = x := by
  obtain ⟨h0, h1, h2, h3, h4⟩ := h
  have : i = x.length := by omega
  subst this
  rw [Int.toNat_natCast, List.take_length] at h4
  have e : y = l := by rw [hy, h4, Int.toNat_natCast]; simp
  refine ⟨e, ?_⟩
  subst e
  unfold flb
  rw [if_neg hb, h4, h2]; simp
theorem Cop.startC {α β : Type} {c : β → α} {l : List β} {x : List α} {z : α} {t j : Int} (hx : x = List.replicate j.toNat z) (hj : wrap64 ((l.length : Int) + t) = j) (ht : t = (room l.length : Int)) (hm : j.toNat ≤ 35184372088832) (h0 : 0 ≤ j) (hl : l.length ≤ 9223372036854775807) : Cop (l.map c) x 0 :=
  Cop.start (t := t) hx (by rw [List.length_map]; exact hj) (by rw [List.length_map]; exact ht) hm h0 (by rw [List.length_map]; exact hl)
theorem Cop.stepC {α β : Type} {c : β → α} {l : List β} {x y : List α} {i : Int} {d : β} (h : Cop (l.map c) x i) (hi : i < l.length) (hy : y = x.set i.toNat (c (l.getD i.toNat d))) : Cop (l.map c) y (wrap64 (i + 1)) := by
  refine Cop.step (d := c d) h (by rw [List.length_map]; exact hi) ?_
  rw [hy]
  have h0 := h.1
  have hn : i.toNat < l.length := by omega
  simp [List.getD_eq_getElem?_getD, List.getElem?_eq_getElem hn]
theorem Cop.filC {α β : Type} {c : β → α} {z : α} {l : List β} {x : List α} {i : Int} (h : Cop (l.map c) x i) (hi : ¬ i < l.length) : Fil z (l.map c) x (l.length : Int) := by
  have := Cop.fil (z := z) h (by rw [List.length_map]; exact hi)
  rw [List.length_map] at this; exact this
theorem Fil.doneC {α β : Type} {c : β → α} {z : α} {l : List β} {x y : List α} {i : Int} {b : Bool} (h : Fil z (l.map c) x i) (hi : ¬ i < x.length) (hy : y = x.take ((l.length : Int) : Int).toNat) (hb : ¬ (b = true ∧ l = [])) : y = l.map c ∧ flb z b y = x :=
  Fil.done h hi (by rw [List.length_map]; exact hy) (fun hh => hb ⟨hh.1, List.map_eq_nil_iff.1 hh.2⟩)
/-- The full row of a made slice. -/
theorem R_relen {α : Type} {d : Kd α} {e base n c : Nat} {w : World} {ok : Nat → Prop} {A : Option Addr} {x y : List α} (h : d.R e w base ok (.slice A n c) x) (hn : n = x.length) (he : y = x) : ∀ m : Nat, d.R e w base ok (relen (.slice A m c) y.length) y := by
  intro m
  subst he; subst hn
  exact h
def filk51 : S51 := ⟨-7000000000000000101, -7000000000000000101, -7000000000000000101, -7000000000000000101⟩
instance decT51 : DecidableEq S51 := fun a b => decidable_of_iff (a.f0 = b.f0 ∧ a.f1 = b.f1 ∧ a.f2 = b.f2 ∧ a.f3 = b.f3) ⟨fun h => by cases a; cases b; simp_all, fun h => by subst h; exact ⟨rfl, rfl, rfl, rfl⟩⟩
end Go.Proofs.Ythanmlojikidbaa.PD
