-- By wip/mk/drv.py
import Derived.Test.YtgaoniapddpaaaaProg
import Derived.Below
import Derived.Deep.Draws
import Derived.Deep.AppendLies
import Derived.Maps.AppendAt
import Derived.OwnWalk
import Derived.Laws.BytesArg
import Derived.Laws.MakeOwn
import Derived.Laws.OwnMore
import Derived.Deep.OwnRows
import Derived.Tactics
import Derived.Lib.ConvBytes
import Derived.Laws.Slices
import Derived.WalkKit
import Derived.KernelRfl
import Derived.RowKit3
import Derived.Deep.LoopGhost
import Derived.Deep.QuietTactic
import Derived.BigQuiet
import Derived.WideLaws
import Derived.Deep.DeepCutAuto
import Derived.Deep.CutBlock
import Derived.Deep.RegionHeld3
import Derived.Laws.Rows
import Derived.Lib.AppendStr
import Derived.Lib.SliceRun
import Derived.Lib.AppendZeros
import Derived.ArgAppend
import Derived.Laws.IdiomCopy
import Derived.OrdersHeld
import Derived.Laws.BitsLemmas
import Derived.RowKit
import Derived.Laws.Externs
import Derived.Shelf.Spec.BitsCarry
import Derived.Test.YtgaoniapddpaaaaQHalvOfWWords
import Derived.Test.YtgaoniapddpaaaaQHalvOfWLast
import Derived.Test.YtgaoniapddpaaaaQHalvOfWTab
import Derived.Test.YtgaoniapddpaaaaQHalvOfWQPut
import Derived.Test.YtgaoniapddpaaaaQHalvOfWApart
import Derived.Test.YtgaoniapddpaaaaQHalvOfWFoot
import Derived.Test.YtgaoniapddpaaaaQHalvOfWKept
import Derived.Test.YtgaoniapddpaaaaQHalvOfWShare
import Derived.Test.YtgaoniapddpaaaaQHalvOfWN
import Derived.Test.YtgaoniapddpaaaaQHalvOfWAt
import Derived.Laws.StructEq
import Derived.Test.YtgaoniapddpaaaaQHalvOfWRepsOne
import Derived.Test.YtgaoniapddpaaaaQHalvOfWInv
import Derived.Test.YtgaoniapddpaaaaQHalvOfWGuard
import Derived.Test.YtgaoniapddpaaaaQHalvOfWMore
namespace Go.Proofs.Ytgaoniapddpaaaa.PD
open Go.RowKit Go.Proofs.YtgaoniapddpaaaaW.PrintWords Go.Proofs.YtgaoniapddpaaaaW.PrintLast Go.Proofs.YtgaoniapddpaaaaW.PrintMore
attribute [local go_sem] max2_int min2_int max_two min_two max_three min_three max_four min_four
set_option linter.unusedVariables false
set_option linter.unusedSimpArgs false
def errW : Option Int → Value
  | none => .nilIface
  | some c => .iface 0 (.int .i64 c)
theorem errW_none : errW none = .nilIface := rfl
theorem errW_some (c : Int) : errW (some c) = .iface 0 (.int .i64 c) := rfl
theorem info3 : (Try.prog.info? 3).map (fun i => (i.zero, i.size, i.bytes)) = some (some (.int .i64 0), 1, 8) := by kernel_rfl
-- the values' own types
/-! #### struct type 27 -/
structure S27 where
  f0 : Int
  f1 : (List Int)
  f2 : (List Int)
def z27 : S27 := ⟨(0 : Int), ([] : List Int), ([] : List Int)⟩
def k27 : Kd S27 := Kd.iso (Kd.pair (Kd.int .i64) (Kd.pair (Kd.slice 3 (Kd.int .i64)) (Kd.slice 3 (Kd.int .i64)))) (fun x : S27 => (x.f0, x.f1, x.f2))
theorem k27_open {w : World} {x : S27} {cs : List Value} (h : k27.K w x cs) : ∃ A1 c1 A2 c2, cs = [.int .i64 x.f0, .slice A1 x.f1.length c1, .slice A2 x.f2.length c2] ∧ x.f1.length ≤ c1 ∧ (Kd.int .i64).C w A1 x.f1.length x.f1 ∧ x.f2.length ≤ c2 ∧ (Kd.int .i64).C w A2 x.f2.length x.f2 := by
  obtain ⟨_, _, rfl, rfl, ⟨_, _, rfl, ⟨A1, c1, rfl, l1, g1⟩, ⟨A2, c2, rfl, l2, g2⟩⟩⟩ := h
  exact ⟨A1, c1, A2, c2, rfl, l1, g1, l2, g2⟩
theorem k27_openM {w : World} {base : Nat} {ok : Nat → Prop} {x : S27} {cs : List Value} (h : k27.M w base ok x cs) : ∃ v1 v2, cs = [.int .i64 x.f0, v1, v2] ∧ (Kd.int .i64).R 3 w base ok v1 x.f1 ∧ (Kd.int .i64).R 3 w base ok v2 x.f2 := by
  obtain ⟨_, _, rfl, rfl, ⟨_, _, rfl, ⟨v1, rfl, g1⟩, ⟨v2, rfl, g2⟩⟩⟩ := h
  exact ⟨v1, v2, rfl, g1, g2⟩
theorem k27_mkM (w : World) (base : Nat) (ok : Nat → Prop) (x : S27) {v1 : Value} (g1 : (Kd.int .i64).R 3 w base ok v1 x.f1) {v2 : Value} (g2 : (Kd.int .i64).R 3 w base ok v2 x.f2) : k27.M w base ok x [.int .i64 x.f0, v1, v2] := ⟨[.int .i64 x.f0], [v1, v2], rfl, rfl, ⟨[v1], [v2], rfl, ⟨v1, rfl, g1⟩, ⟨v2, rfl, g2⟩⟩⟩
def rd_T27 (xs : List S27) (i : Int) : S27 := xs.getD i.toNat z27
theorem at_T27 {w : World} {A : Option Addr} {n : Nat} {xs : List S27} (h : Kd.C k27 w A n xs) (i : Int) (h0 : 0 ≤ i) (h1 : i < n) : ∃ ad A1 c1 A2 c2, A = some ad ∧ w.cell? (ad.add (i.toNat * 3)) = some (.int .i64 (rd_T27 xs i).f0) ∧ w.cell? ⟨(ad.add (i.toNat * 3)).block, (ad.add (i.toNat * 3)).off + 1, none⟩ = some (.slice A1 (rd_T27 xs i).f1.length c1) ∧ w.cell? ⟨(ad.add (i.toNat * 3)).block, (ad.add (i.toNat * 3)).off + 2, none⟩ = some (.slice A2 (rd_T27 xs i).f2.length c2) ∧ (rd_T27 xs i).f1.length ≤ c1 ∧ (Kd.int .i64).C w A1 (rd_T27 xs i).f1.length (rd_T27 xs i).f1 ∧ (rd_T27 xs i).f2.length ≤ c2 ∧ (Kd.int .i64).C w A2 (rd_T27 xs i).f2.length (rd_T27 xs i).f2 := by
  obtain ⟨ad, c, e, _, hK, hc0⟩ := Kd.C_get h z27 i h0 h1
  have hc : ∀ j u, c[j]? = some u → w.cell? (ad.add (i.toNat * 3 + j)) = some u := hc0
  obtain ⟨A1, c1, A2, c2, rfl, l1, g1, l2, g2⟩ := k27_open hK
  exact ⟨ad, A1, c1, A2, c2, e, hc 0 _ rfl, by rw [← add_field _ _ 1 (by omega)]; exact hc 1 _ rfl, by rw [← add_field _ _ 2 (by omega)]; exact hc 2 _ rfl, l1, g1, l2, g2⟩
/-! #### struct type 24 -/
/-- A fact of a block, at a later world. -/
theorem zq1 {P Q : Prop} (h : Aside0 Q) (f : Q → P := by intro h_; (with_reducible repeat (first | refine blk_drewN ?_ _ | refine blk_drew ?_ | refine blk_alloc ?_ _)); exact h_) : P := f h.out
/-- A row's fact, at a later world. -/
theorem zq3 {P Q : Prop} (h : Aside0 Q) (f : Q → P := by intro h_; (with_reducible repeat (first | apply Kd.R_alloc | apply Kd.R_drewN | apply Kd.R_drew)); exact h_) : P := f h.out
/-- A fact of a block, behind stores elsewhere. -/
theorem zq5 {P Q : Prop} (h : Aside0 Q) (f : Q → P := by intro h_; repeat (first | (with_reducible first | exact h_ | refine blk_drewN ?_ _ | refine blk_drew ?_ | refine blk_alloc ?_ _ | refine blk_far ?_ (Aside0.out (by assumption)) _) | exact h_)) : P := f h.out
/-- A new block is none of the elder ones. -/
theorem zlt {w w1 : World} {g gb : Nat} {o : Obj} (h : Aside0 (w.heap[g]? = some o)) (hg : gb = w1.heap.size) (k : w.heap[g]? = some o → w1.heap[g]? = some o := by intro h_; (with_reducible repeat (first | refine blk_drewN ?_ _ | refine blk_drew ?_ | refine blk_alloc ?_ _)); exact h_) : g ≠ gb := by rw [hg]; exact Nat.ne_of_lt (blk_lt (k h.out))
theorem zgt {w w1 : World} {g gb : Nat} {o : Obj} (h : Aside0 (w.heap[g]? = some o)) (hg : gb = w1.heap.size) (k : w.heap[g]? = some o → w1.heap[g]? = some o := by intro h_; (with_reducible repeat (first | refine blk_drewN ?_ _ | refine blk_drew ?_ | refine blk_alloc ?_ _)); exact h_) : gb ≠ g := by rw [hg]; exact Nat.ne_of_gt (blk_lt (k h.out))
/-- A fact of a block, behind a call. -/
theorem zbb {w w1 w2 : World} {g B : Nat} {o : Obj} (h : Aside0 (w.heap[g]? = some o)) (hb : Below B w1 w2) (hB : B = w1.heap.size := by rfl) (k : w.heap[g]? = some o → w1.heap[g]? = some o := by intro h_; (with_reducible repeat (first | refine blk_drewN ?_ _ | refine blk_drew ?_ | refine blk_alloc ?_ _)); exact h_) : w2.heap[g]? = some o := by subst hB; exact blk_below (k h.out) hb
theorem zc {w : World} {g : Nat} {t : TypeId} {cs : Array Value} (h : Aside0 (w.heap[g]? = some (.cells cs t (0, 0)))) (i : Nat) {v : Value} (e : cs[i]? = some v := by rfl) : w.cell? ⟨g, i, none⟩ = some v := (blk_cell h.out i).trans e
theorem zge {w w1 : World} {gb : Nat} (h : Below w.heap.size w w1) (hg : gb = w1.heap.size) : w.heap.size ≤ gb := by rw [hg]; exact h.size
theorem zq6 {α : Type} {a b : α} (h : a = b := by (try simp only [List.map_toArray, List.map_cons, List.map_nil]); first | done | rfl | (simp only [List.length_drop, List.length_take]; rfl)) : a = b := h
/-- An operation that yields in every world, taken first: its own proofs by default. -/
theorem zp {P : Program} {md : Region.Mode} {ops : Array Oper} {Q : Exit → Act → World → Prop} {S : World → Prop} {ds : List Nat} {i : Nat} {N : Option Tmp} {oi : Oper} {v : Value} {fuel : Nat} {l : Array Bool} {a a' : Act} {w : World} (l' : Array Bool) (hc : anyB md ops l l' i = true)
    (h : wpAnyLast P md ops Q S ds fuel l' a' w) (hi : ops[i]? = some oi := by rfl) (hN : oi.dst = N := by rfl) (hg : Region.wanted oi (yielded ops a.tmps) = true := by rfl)
    (hy : ∀ w', (execOp a.eval oi).run P w' = .ok (.value v) w' := by intro w'; go_simp; with_reducible rfl) (ha : a.put N v = a' := by simp only [Act.put, List.setIfInBounds_toArray, List.set_cons_zero, List.set_cons_succ, i64_w, i32_w]; rfl)
    (hQ : ∀ c a w, Q (.panic c) (a.put oi.dst v) w → Q (.panic c) a w := by exact fun _ _ _ h => h) : wpAnyLast P md ops Q S ds (fuel + 1) l a w := pure_ l' hi hN hc hQ (Or.inl ⟨hg, hy⟩) ha h
theorem zbe {P : Program} {ops : Array Oper} {rest : List Oper} {o : Oper} {a : Act} {Q : Exit → Act → World → Prop} {W : World} {N : Tmp} {cs : Array Value} {t : TypeId}
    (h : ∀ g, g = W.heap.size → ∀ w1, w1.heap[g]? = some (.cells cs t (0, 0)) → Below W.heap.size W w1 → wpList P ops Q rest (a.put o.dst (.pointer (some ⟨g, 0, none⟩))) w1) (hd : o.dst = some N := by rfl) (hgd : o.guard = none := by rfl)
    (hrun : (execOp a.eval o).run P W = .ok (.value (.pointer (some ⟨W.heap.size, 0, none⟩))) (W.alloc (.cells cs t (0, 0))) := by first | (go_simp; done) | (go_simp; rfl)) : wpList P ops Q (o :: rest) a W := box_event hgd hd hrun h
theorem zb0 {w W0 W1 : World} {B : Nat} (h : Aside0 (Below B w W0)) (f : Below B w W0 → Below B w W1 := by intro h_; repeat (first | (with_reducible first | exact h_ | apply below_alloc | apply pw_below_drewN | apply below_drew1) | exact h_)) : Below B w W1 := f h.out
theorem zb1 {w W0 W1 : World} {B : Nat} (h : Aside0 (Below B w W0)) (f : Below B w W0 → Below B w W1 := by intro h_; repeat (first | (with_reducible first | exact h_ | apply below_alloc | apply pw_below_drewN | apply below_drew1 | refine below_set ?_ (Aside0.out (by assumption))) | exact h_)) : Below B w W1 := f h.out
/-! a made slice's spare cells -/
/-- The slice up to N elements. -/
def relen (v : Value) (N : Nat) : Value := match v with | .slice A _ c => .slice A N c | v => v
def room (n : Nat) : Nat := if n % 6 = 5 then 0 else if n % 3 = 0 then 1 else n
/-- A list with the spare cells behind it. -/
def flb {α : Type} (z : α) (b : Bool) (l : List α) : List α := l ++ (if b = true ∧ l = [] then [] else List.replicate (room l.length) z)
theorem flb_len {α : Type} (z : α) (l : List α) : (flb z false l).length = l.length + room l.length := by unfold flb; rw [if_neg (by simp)]; simp
def filInt : Int := -7000000000000000101
theorem cut_cap {P : Program} (t e : TypeId) (kh : IntKind) {i : TypeInfo} (ht : P.underlying t = some (.slice e)) (hi : P.info? e = some i) (A : Option Addr) (n c : Nat) (j : Int) (m : Nat) (hj : j = (m : Int)) (hm : m ≤ c) :
    ∀ W : World, (Instr.slice t (.slice A n c) none (some (.int kh j)) none).run P W = .ok (.slice A m c) W := by
  intro W
  have hel : P.elem t = e := by simp [Program.elem, ht]
  have hu : P.underlying t = some (.slice (P.elem t)) := by rw [hel]; exact ht
  have ha : (A.map fun x => x.add 0) = A := by cases A <;> simp [Addr.add]
  rw [run_slice_h W t A n c hu kh j (by omega) (by omega), hel]
  subst hj
  simp [sizeOf, typeInfo, hi, sliced, Result.andThen, ha]
/-- What a loop that copies has done. -/
def Cop {α : Type} (l x : List α) (i : Int) : Prop := 0 ≤ i ∧ i ≤ l.length ∧ x.length = l.length + room l.length ∧ x.length ≤ 35184372088832 ∧ x.take i.toNat = l.take i.toNat
def Fil {α : Type} (z : α) (l x : List α) (i : Int) : Prop := (l.length : Int) ≤ i ∧ i ≤ x.length ∧ x.length = l.length + room l.length ∧ x.length ≤ 35184372088832 ∧ x.take i.toNat = l ++ List.replicate (i.toNat - l.length) z
theorem Cop.start {α : Type} {l x : List α} {z : α} {t j : Int} (hx : x = List.replicate j.toNat z) (hj : wrap64 ((l.length : Int) + t) = j) (ht : t = (room l.length : Int)) (hm : j.toNat ≤ 35184372088832) (h0 : 0 ≤ j) (hl : l.length ≤ 9223372036854775807) : Cop l x 0 := by
  subst ht
  have hr : room l.length ≤ l.length + 1 := by unfold room; split <;> (try split) <;> omega
  have : j = (l.length : Int) + (room l.length : Int) := by
    rw [← hj] at h0 hm ⊢
    unfold wrap64 at *
    omega
  refine ⟨by omega, by omega, ?_, ?_, by simp⟩
  · rw [hx, List.length_replicate]; omega
  · rw [hx, List.length_replicate]; omega
theorem Cop.step {α : Type} {l x y : List α} {i : Int} {d : α} (h : Cop l x i) (hi : i < l.length) (hy : y = x.set i.toNat (l.getD i.toNat d)) : Cop l y (wrap64 (i + 1)) := by
  obtain ⟨h0, h1, h2, h3, h4⟩ := h
  have hw : wrap64 (i + 1) = i + 1 := by unfold wrap64; omega
  rw [hw]
  subst hy
  obtain ⟨n, rfl⟩ := Int.eq_ofNat_of_zero_le h0
  have hn : n < l.length := by omega
  have hnx : n < x.length := by omega
  refine ⟨by omega, by omega, by rw [List.length_set]; omega, by rw [List.length_set]; omega, ?_⟩
  rw [show ((n : Int) + 1).toNat = n + 1 by omega, Int.toNat_natCast] at *
  rw [List.take_succ_eq_append_getElem (by rw [List.length_set]; omega), List.take_succ_eq_append_getElem hn, List.take_set_of_le (Nat.le_refl _), h4]
  simp [List.getD_eq_getElem?_getD, List.getElem?_eq_getElem hn]
theorem Cop.fil {α : Type} {z : α} {l x : List α} {i : Int} (h : Cop l x i) (hi : ¬ i < l.length) : Fil z l x (l.length : Int) := by
  obtain ⟨h0, h1, h2, h3, h4⟩ := h
  have : i = l.length := by omega
  subst this
  refine ⟨by omega, by omega, h2, h3, ?_⟩
  rw [Int.toNat_natCast] at *
  rw [h4]; simp
theorem Fil.step {α : Type} {z : α} {l x y : List α} {i : Int} (h : Fil z l x i) (hi : i < x.length) (hy : y = x.set i.toNat z) : Fil z l y (wrap64 (i + 1)) := by
  obtain ⟨h0, h1, h2, h3, h4⟩ := h
  have hw : wrap64 (i + 1) = i + 1 := by unfold wrap64; omega
  rw [hw]
  subst hy
  obtain ⟨n, rfl⟩ := Int.eq_ofNat_of_zero_le (show 0 ≤ i by omega)
  have hnx : n < x.length := by omega
  refine ⟨by omega, by rw [List.length_set]; omega, by rw [List.length_set]; omega, by rw [List.length_set]; omega, ?_⟩
  rw [show ((n : Int) + 1).toNat = n + 1 by omega, Int.toNat_natCast] at *
  rw [List.take_succ_eq_append_getElem (by rw [List.length_set]; omega), List.take_set_of_le (Nat.le_refl _), h4, List.getElem_set_self, List.append_assoc, ← List.replicate_succ', show n - l.length + 1 = n + 1 - l.length by omega]
theorem Fil.done {α : Type} {z : α} {l x y : List α} {i : Int} {b : Bool} (h : Fil z l x i) (hi : ¬ i < x.length) (hy : y = x.take ((l.length : Int) : Int).toNat) (hb : ¬ (b = true ∧ l = [])) : y = l ∧ flb z b y = x := by
  obtain ⟨h0, h1, h2, h3, h4⟩ := h
  have : i = x.length := by omega
  subst this
  rw [Int.toNat_natCast, List.take_length] at h4
  have e : y = l := by rw [hy, h4, Int.toNat_natCast]; simp
  refine ⟨e, ?_⟩
  subst e
  unfold flb
  rw [if_neg hb, h4, h2]; simp
theorem Cop.startC {α β : Type} {c : β → α} {l : List β} {x : List α} {z : α} {t j : Int} (hx : x = List.replicate j.toNat z) (hj : wrap64 ((l.length : Int) + t) = j) (ht : t = (room l.length : Int)) (hm : j.toNat ≤ 35184372088832) (h0 : 0 ≤ j) (hl : l.length ≤ 9223372036854775807) : Cop (l.map c) x 0 :=
  Cop.start (t := t) hx (by rw [List.length_map]; exact hj) (by rw [List.length_map]; exact ht) hm h0 (by rw [List.length_map]; exact hl)
theorem Cop.stepC {α β : Type} {c : β → α} {l : List β} {x y : List α} {i : Int} {d : β} (h : Cop (l.map c) x i) (hi : i < l.length) (hy : y = x.set i.toNat (c (l.getD i.toNat d))) : Cop (l.map c) y (wrap64 (i + 1)) := by
  refine Cop.step (d := c d) h (by rw [List.length_map]; exact hi) ?_
  rw [hy]
  have h0 := h.1
  have hn : i.toNat < l.length := by omega
  simp [List.getD_eq_getElem?_getD, List.getElem?_eq_getElem hn]
theorem Cop.filC {α β : Type} {c : β → α} {z : α} {l : List β} {x : List α} {i : Int} (h : Cop (l.map c) x i) (hi : ¬ i < l.length) : Fil z (l.map c) x (l.length : Int) := by
  have := Cop.fil (z := z) h (by rw [List.length_map]; exact hi)
  rw [List.length_map] at this; exact this
theorem Fil.doneC {α β : Type} {c : β → α} {z : α} {l : List β} {x y : List α} {i : Int} {b : Bool} (h : Fil z (l.map c) x i) (hi : ¬ i < x.length) (hy : y = x.take ((l.length : Int) : Int).toNat) (hb : ¬ (b = true ∧ l = [])) : y = l.map c ∧ flb z b y = x :=
  Fil.done h hi (by rw [List.length_map]; exact hy) (fun hh => hb ⟨hh.1, List.map_eq_nil_iff.1 hh.2⟩)
/-- A row, behind three stores into a block of another type. -/
theorem z3f {α : Type} {d : Kd α} {e base g : Nat} {w W : World} {ok : Nat → Prop} {v : Value} {xs : List α} {cells : Array Value} {t : TypeId} (h : Aside0 (d.R e w base ok v xs)) (hb : Aside0 (w.heap[g]? = some (.cells cells t (0, 0)))) (a b c : Value) (ht : ∀ q, q ∈ e :: d.E → q ≠ t := by decide)
    (f : d.R e (((w.setCell ⟨g, 0, none⟩ a).setCell ⟨g, 1, none⟩ b).setCell ⟨g, 2, none⟩ c) base ok v xs → d.R e W base ok v xs := by intro h_; (with_reducible repeat (first | apply Kd.R_alloc | apply Kd.R_drewN | apply Kd.R_drew)); exact h_) : d.R e W base ok v xs :=
  f (Kd.R_mono (Kd.R_far (p := ⟨g, 2, none⟩) (Kd.R_far (p := ⟨g, 1, none⟩) (Kd.R_far (p := ⟨g, 0, none⟩) (Kd.R_types h.out hb.out ht) (fun _ hk => hk.2) a) (fun _ hk => hk.2) b) (fun _ hk => hk.2) c) (fun _ hk => hk.1))
/-- A row of the call's own is read. -/
theorem zcr {α : Type} {d : Kd α} {e base n c : Nat} {w W : World} {ok : Nat → Prop} {A : Option Addr} {xs : List α} (h : Aside0 (d.R e w base ok (.slice A n c) xs)) (f : d.C w A xs.length xs → d.C W A xs.length xs := by intro h_; repeat (first | exact h_ | (with_reducible refine Kd.C_alloc ?_ _) | (with_reducible refine Kd.C_drewN ?_ _) | (with_reducible refine Kd.C_drew ?_))) : d.C W A xs.length xs := f (Kd.R_reads' h.out).2.2
/-- A row that came in is read. -/
theorem zcs {α : Type} {d : Kd α} {n : Nat} {w0 w W : World} {A : Option Addr} {xs : List α} (h : Aside0 (d.C w0 A n xs)) (hb : Aside0 (Below w0.heap.size w0 w)) (f : d.C w A n xs → d.C W A n xs := by intro h_; repeat (first | exact h_ | (with_reducible refine Kd.C_alloc ?_ _) | (with_reducible refine Kd.C_drewN ?_ _) | (with_reducible refine Kd.C_drew ?_))) : d.C W A n xs := f (Kd.C_below h.out hb.out)
/-- A row that is told apart from less, or in another order. -/
theorem zqm {α : Type} {d : Kd α} {e base : Nat} {w W : World} {ok ok' : Nat → Prop} {v : Value} {xs : List α} (h : Aside0 (d.R e w base ok v xs)) (hm : ∀ k, ok k → ok' k := by intro k hk; simp only [ne_eq] at hk ⊢; simp only [hk, not_false_eq_true, and_self])
    (f : d.R e w base ok' v xs → d.R e W base ok' v xs := by intro h_; (with_reducible repeat (first | apply Kd.R_alloc | apply Kd.R_drewN | apply Kd.R_drew)); exact h_) : d.R e W base ok' v xs := f (Kd.R_mono h.out hm)
/-- An elder row, told apart from two new ones. -/
theorem zt2 {α β γ : Type} {d : Kd α} {d0 : Kd β} {d1 : Kd γ} {e e0 e1 base : Nat} {W w1 : World} {ok ok0 ok1 : Nat → Prop} {u v0 v1 : Value} {xs : List α} {x0 : List β} {x1 : List γ} (hu : d.R e W base ok u xs) (hb : Below W.heap.size W w1) (h0 : d0.R e0 w1 W.heap.size ok0 v0 x0) (h1 : d1.R e1 w1 W.heap.size ok1 v1 x1) : d.R e w1 base (fun k => (ok k ∧ some k ≠ v0.ownBlock) ∧ some k ≠ v1.ownBlock) u xs :=
  Kd.R_mono (Kd.R_told (Kd.R_told (Kd.R_old hu hb) (Kd.R_base h0)) (Kd.R_base h1)) (fun _ h_ => h_.1)
/-- The full row of a made slice. -/
theorem R_relen {α : Type} {d : Kd α} {e base n c : Nat} {w : World} {ok : Nat → Prop} {A : Option Addr} {x y : List α} (h : d.R e w base ok (.slice A n c) x) (hn : n = x.length) (he : y = x) : ∀ m : Nat, d.R e w base ok (relen (.slice A m c) y.length) y := by
  intro m
  subst he; subst hn
  exact h
/-- A box whose two rows are not one. -/
def k27x : Kd S27 := { k27 with
  M := fun w base ok x cs => k27.M w base ok x cs ∧ ∃ u v1 v2, cs = [u, v1, v2] ∧ ∀ g, v1.ownBlock = some g → v2.ownBlock ≠ some g
  K_of_M := fun h => k27.K_of_M h.1
  M_mono := fun hok h => ⟨k27.M_mono hok h.1, h.2⟩
  M_bound := fun h => ⟨k27.M_bound h.1, h.2⟩
  M_move := fun hm h => ⟨k27.M_move hm h.1, h.2⟩
  M_lower := fun hb h => ⟨k27.M_lower hb h.1, h.2⟩ }
/-- A literal of two boxes, their four rows all apart. -/
theorem k27x_lit2 {P : Program} {ops : Array Oper} {rest : List Oper} {o : Oper} {a : Act} {Q : Exit → Act → World → Prop} {w W : World} (hgd : o.guard = none) {N : Tmp} (hd : o.dst = some N) {x0 x1 : Int} {v1 v2 v3 v4 : Value} {l1 l2 l3 l4 : List Int} {o1 o2 o3 o4 : Nat → Prop}
    (hrun : (execOp a.eval o).run P W = .ok (.value (.slice (some ⟨W.heap.size, 0, none⟩) 2 2)) (W.alloc (.cells #[.int .i64 x0, v1, v2, .int .i64 x1, v3, v4] 27)))
    (h1 : Kd.R (Kd.int .i64) 3 W w.heap.size o1 v1 l1) (h2 : Kd.R (Kd.int .i64) 3 W w.heap.size o2 v2 l2) (h3 : Kd.R (Kd.int .i64) 3 W w.heap.size o3 v3 l3) (h4 : Kd.R (Kd.int .i64) 3 W w.heap.size o4 v4 l4)
    (h12 : ∀ k, o1 k → some k ≠ v2.ownBlock) (h13 : ∀ k, o1 k → some k ≠ v3.ownBlock) (h14 : ∀ k, o1 k → some k ≠ v4.ownBlock) (h23 : ∀ k, o2 k → some k ≠ v3.ownBlock) (h24 : ∀ k, o2 k → some k ≠ v4.ownBlock) (h34 : ∀ k, o3 k → some k ≠ v4.ownBlock) (HB : Below w.heap.size w W)
    (h : ∀ v w1, Kd.S k27x 27 w1 w.heap.size (fun k_ => w.heap.size ≤ k_) v [(⟨x0, l1, l2⟩ : S27), (⟨x1, l3, l4⟩ : S27)] → Below W.heap.size W w1 → wpList P ops Q rest (a.put o.dst v) w1) : wpList P ops Q (o :: rest) a W := by
  have g1 := fun k (e : some k = v1.ownBlock) => h1.1 k e.symm
  have g2 := fun k (e : some k = v2.ownBlock) => h2.1 k e.symm
  have g3 := fun k (e : some k = v3.ownBlock) => h3.1 k e.symm
  have t1 : Kd.R (Kd.int .i64) 3 W w.heap.size (fun k => some k = v1.ownBlock ∨ some k = v2.ownBlock) v1 l1 := Kd.R_mono (Kd.R_tight rfl h1) (fun _ e => .inl e)
  have t2 : Kd.R (Kd.int .i64) 3 W w.heap.size (fun k => some k = v1.ownBlock ∨ some k = v2.ownBlock) v2 l2 := Kd.R_mono (Kd.R_tight rfl h2) (fun _ e => .inr e)
  have t3 : Kd.R (Kd.int .i64) 3 W w.heap.size (fun k => some k = v3.ownBlock ∨ some k = v4.ownBlock) v3 l3 := Kd.R_mono (Kd.R_tight rfl h3) (fun _ e => .inl e)
  have t4 : Kd.R (Kd.int .i64) 3 W w.heap.size (fun k => some k = v3.ownBlock ∨ some k = v4.ownBlock) v4 l4 := Kd.R_mono (Kd.R_tight rfl h4) (fun _ e => .inr e)
  have bb := below_size HB
  refine Kd.S_lits k27x (w0 := W) w.heap.size 27 hgd hd (ok := fun k_ => w.heap.size ≤ k_) (xs := [(⟨x0, l1, l2⟩ : S27), (⟨x1, l3, l4⟩ : S27)]) (inner := [.int .i64 x0, v1, v2, .int .i64 x1, v3, v4])
    (fun j k => if j = 0 then (some k = v1.ownBlock ∨ some k = v2.ownBlock) else (j = 1 ∧ (some k = v3.ownBlock ∨ some k = v4.ownBlock))) hrun rfl ?_ ?_ ?_ bb (Below.mono (Below.refl _ _) bb) bb (show 2 ≤ 9223372036854775807 by decide) ?_
  · intro j x hj
    match j, hj with
    | 0, hj =>
      obtain rfl := Option.some.inj hj
      exact ⟨k27_mkM W _ _ _ t1 t2, _, _, _, rfl, fun g e1 e2 => h12 g (h1.1 g e1) e2.symm⟩
    | 1, hj =>
      obtain rfl := Option.some.inj hj
      exact ⟨k27_mkM W _ _ _ (Kd.R_mono t3 (fun _ e => ⟨rfl, e⟩)) (Kd.R_mono t4 (fun _ e => ⟨rfl, e⟩)), _, _, _, rfl, fun g e1 e2 => h34 g (h3.1 g e1) e2.symm⟩
    | j + 2, hj => simp at hj
  · intro i j k hi hj
    have no : (some k = v1.ownBlock ∨ some k = v2.ownBlock) → (some k = v3.ownBlock ∨ some k = v4.ownBlock) → False := by
      rintro (e | e) (e' | e')
      · exact h13 k (g1 k e) e'
      · exact h14 k (g1 k e) e'
      · exact h23 k (g2 k e) e'
      · exact h24 k (g2 k e) e'
    by_cases i0 : i = 0 <;> by_cases j0 : j = 0
    · omega
    · rw [if_pos i0] at hi; rw [if_neg j0] at hj; exact (no hi hj.2).elim
    · rw [if_neg i0] at hi; rw [if_pos j0] at hj; exact (no hj hi.2).elim
    · rw [if_neg i0] at hi; rw [if_neg j0] at hj; omega
  · intro j k hk
    by_cases j0 : j = 0
    · rw [if_pos j0] at hk
      rcases hk with e | e
      · exact Kd.R_base h1 k e.symm
      · exact Kd.R_base h2 k e.symm
    · rw [if_neg j0] at hk
      rcases hk.2 with e | e
      · exact Kd.R_base h3 k e.symm
      · exact Kd.R_base h4 k e.symm
  · intro v w1 hS hb hg _
    exact h v w1 hS ⟨hb.os, hb.tape, hb.output, hb.size, fun k hk => hg.block k hk (by simp)⟩
end Go.Proofs.Ytgaoniapddpaaaa.PD
