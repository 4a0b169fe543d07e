-- By wip/mk/drv.py
import Derived.Test.YtgaoniapddpaaaaQCornOfPDx0
import Derived.Test.YtgaoniapddpaaaaQCornOfPDx1
import Derived.Test.YtgaoniapddpaaaaQCornOfPDx3
import Derived.Test.YtgaoniapddpaaaaQCornOfPDx11
import Derived.Test.YtgaoniapddpaaaaQCornOfPDx23
import Derived.Test.YtgaoniapddpaaaaQCornOfPDx30
namespace Go.Proofs.Ytgaoniapddpaaaa.PD
open Go.RowKit Go.Proofs.YtgaoniapddpaaaaW.PrintWords Go.Proofs.YtgaoniapddpaaaaW.PrintLast Go.Proofs.YtgaoniapddpaaaaW.PrintMore
attribute [local go_sem] max2_int min2_int max_two min_two max_three min_three max_four min_four
set_option linter.unusedVariables false
set_option linter.unusedSimpArgs false
/-! ### impl_CornersOf: function 44 -/
-- PROOF
namespace Kd
open Go.Proofs.YtgaoniapddpaaaaW.PrintWords.Kd
section
variable {P : Program} {ops : Array Oper} {rest : List Oper} {o : Oper} {a : Act} {Q : Exit → Act → World → Prop} {Kc : Act → World → Prop} {α : Type}
theorem S_afterv {d : Kd α} {e base : Nat} {ok : Nat → Prop} {W w1 : World} {u v v1 : Value} {xs : List α} (h : Kd.S d e W base (fun k => ok k ∧ some k ≠ v.ownBlock) u xs) (hg : W.grownBy w1 v.ownBlock) (hat : v1.ownBlock = v.ownBlock ∨ ∃ b, v1.ownBlock = some b ∧ W.heap.size ≤ b) : Kd.S d e w1 base (fun k => ok k ∧ some k ≠ v1.ownBlock) u xs := S_after h hg hat
open Classical in
/-- Behind an append of a whole row: the old elements and the new ones, each with its own blocks. -/
theorem S_appended {d : Kd α} {e base : Nat} {ok okp : Nat → Prop} {W w1 : World} {v v1 : Value} {xs ys : List α} {f f2 : Nat → Nat} {inner inner2 : List Value}
    (h0 : ∀ k, v.ownBlock = some k → ok k) (hrep : Reps ((tag f d).M W base (fun k => (ok k ∧ ¬ okp k) ∧ some k ≠ v.ownBlock)) d.sz xs.zipIdx inner)
    (hrep2 : Reps ((tag f2 d).M W base okp) d.sz ys.zipIdx inner2) (hokp : ∀ k, okp k → ok k ∧ some k ≠ v.ownBlock) (hfresh : ∀ k, W.heap.size ≤ k → ok k)
    (hR : (raw d.sz).R e w1 base (fun _ => True) v1 (chunks d.sz xs.length inner ++ chunks d.sz ys.length inner2)) (hg : W.grownBy w1 v.ownBlock) (hat : v1.ownBlock = v.ownBlock ∨ ∃ b, v1.ownBlock = some b ∧ W.heap.size ≤ b) : Kd.S d e w1 base ok v1 (xs ++ ys) := by
  have hne : ∀ k, some k ≠ v.ownBlock → k < W.heap.size → some k ≠ v1.ownBlock := by
    intro k hk hlt
    rcases hat with hat | ⟨b, hb, hle⟩
    · rw [hat]; exact hk
    · rw [hb]
      intro he
      injection he with he
      omega
  obtain ⟨_, inner1, hown1, hrep1⟩ := hR
  have hlen : (chunks d.sz xs.length inner ++ chunks d.sz ys.length inner2).length = (xs ++ ys).length := by rw [List.length_append, chunks_length, chunks_length, List.length_append]
  have step : ∀ {x : α} {c : List Value} {o : Nat → Prop} {q : Nat → Prop}, d.M W base (fun k => o k ∧ q k) x c → (∀ k, o k → ok k ∧ some k ≠ v.ownBlock) → d.M w1 base (fun k => ((ok k ∧ some k ≠ v1.ownBlock) ∧ o k) ∧ q k) x c := by
    intro x c o q hq ho
    refine d.M_mono (fun k hk => ?_) (d.M_move (w1 := w1) (fun k hk => hg.block k hk.2.2.1 (ho k hk.1.1).2) (d.M_bound hq))
    exact ⟨⟨⟨(ho k hk.1.1).1, hne k (ho k hk.1.1).2 hk.2.2.1⟩, hk.1.1⟩, hk.1.2⟩
  refine ⟨fun k => if okp k then xs.length + f2 k else f k, fun k hk => ?_, inner1, by rw [List.length_zipIdx, ← hlen]; exact hown1, by rw [List.length_zipIdx, ← hlen]; exact hrep1.1, fun j p hj => ?_⟩
  · rcases hat with hat | ⟨b, hb, hle⟩
    · exact h0 k (hat ▸ hk)
    · rw [hb] at hk
      injection hk with hk
      exact hfresh k (by omega)
  · rw [List.getElem?_zipIdx, Nat.zero_add] at hj
    obtain ⟨x, hx, rfl⟩ := Option.map_eq_some_iff.1 hj
    have hjl : j < (xs ++ ys).length := (List.getElem?_eq_some_iff.1 hx).1
    have hch : ∀ c, (chunks d.sz xs.length inner ++ chunks d.sz ys.length inner2)[j]? = some c → (inner1.drop (j * d.sz)).take d.sz = c := fun c hc => (hrep1.2 j c hc).1
    show d.M w1 base (fun k => (ok k ∧ some k ≠ v1.ownBlock) ∧ (if okp k then xs.length + f2 k else f k) = j) x ((inner1.drop (j * d.sz)).take d.sz)
    rcases Nat.lt_or_ge j xs.length with hlt | hge
    · rw [List.getElem?_append_left hlt] at hx
      rw [hch _ (by rw [List.getElem?_append_left (by rw [chunks_length]; exact hlt)]; exact chunks_at hlt)]
      have hM : d.M W base (fun k => ((ok k ∧ ¬ okp k) ∧ some k ≠ v.ownBlock) ∧ f k = j) x ((inner.drop (j * d.sz)).take d.sz) := hrep.2 j (x, j) (zip_at hx)
      refine d.M_mono (fun k hk => ⟨hk.1.1, ?_⟩) (step hM (fun k hk => ⟨hk.1.1, hk.2⟩))
      rw [if_neg hk.1.2.1.2]; exact hk.2
    · rw [List.getElem?_append_right hge] at hx
      have hj2 : j - xs.length < ys.length := (List.getElem?_eq_some_iff.1 hx).1
      rw [hch _ (by rw [List.getElem?_append_right (by rw [chunks_length]; exact hge), chunks_length]; exact chunks_at hj2)]
      have hM : d.M W base (fun k => okp k ∧ f2 k = j - xs.length) x ((inner2.drop ((j - xs.length) * d.sz)).take d.sz) := hrep2.2 (j - xs.length) (x, j - xs.length) (zip_at hx)
      refine d.M_mono (fun k hk => ⟨hk.1.1, ?_⟩) (step hM hokp)
      rw [if_pos hk.1.2]; have := hk.2; omega
theorem S_append_rows_step (d : Kd α) {w0 W : World} (base : Nat) (hw : Region.wanted o (yielded ops a.tmps) = true) (s x : Operand) (t e : TypeId) (z : Value) (bytes : Nat)
    (ho : o.op = .call { callee := .builtin .append, args := #[s, x], argTypes := #[t, t] })
    (ht : P.underlying t = some (.slice e)) (hinfo : (P.info? e).map (fun i => (i.zero, i.size, i.bytes)) = some (some z, d.sz, bytes)) (hz : z.cells.size = d.sz) (hs0 : 0 < d.sz) (hb0 : 0 < bytes)
    (v : Value) (xs ys : List α) (A : Option Addr) (m c : Nat) (ok okp : Nat → Prop) (hs : a.eval s = v) (hx : a.eval x = .slice A m c)
    (HO : Kd.S d e W base (fun k => ok k ∧ ¬ okp k) v xs) (HR : Kd.S d e W base okp (.slice A m c) ys) (hokp : ∀ k, okp k → ok k ∧ some k ≠ v.ownBlock) (hfresh : ∀ k, W.heap.size ≤ k → ok k)
    (HB : Below base w0 W) (hbase : base ≤ W.heap.size) (hl : (xs.length + m) * bytes ≤ 140737488355328)
    (h : ∀ v1 w1, Kd.S d e w1 base ok v1 (xs ++ ys) → Below base w0 w1 → W.grownBy w1 v.ownBlock → (v1.ownBlock = v.ownBlock ∨ ∃ b, v1.ownBlock = some b ∧ W.heap.size ≤ b) → Kc (a.put o.dst v1) w1) :
    if Region.wanted o (yielded ops a.tmps) = true then Oper.wp P o a W Kc Q else Kc (a.put o.dst undef) W := by
  obtain ⟨f, h0, inner, hown, hrep⟩ := HO
  obtain ⟨f2, h20, inner2, hown2, hrep2⟩ := HR
  have hr1 : (raw d.sz).R e W base (fun _ => True) v (chunks d.sz xs.length inner) := ⟨fun _ _ => trivial, inner, by rw [chunks_length]; rw [List.length_zipIdx] at hown; exact hown, by
    have := reps_raw hrep (fun y c hy => ⟨d.K_len (d.K_of_M hy), d.K_one (d.K_of_M hy)⟩)
    rw [List.length_zipIdx] at this; exact this⟩
  have hr2 : (raw d.sz).R e W base (fun _ => True) (.slice A m c) (chunks d.sz ys.length inner2) := ⟨fun _ _ => trivial, inner2, by rw [chunks_length]; rw [List.length_zipIdx] at hown2; exact hown2, by
    have := reps_raw hrep2 (fun y c hy => ⟨d.K_len (d.K_of_M hy), d.K_one (d.K_of_M hy)⟩)
    rw [List.length_zipIdx] at this; exact this⟩
  obtain ⟨hm, _, hC⟩ := R_reads' hr2
  refine R_append_rows_step (raw d.sz) base hw s x t e z bytes ho ht hinfo hz hs0 hb0 v (chunks d.sz xs.length inner) (chunks d.sz ys.length inner2) A m c (fun _ => True) (fun _ => False) hs hx hr1 (by rw [hm]; exact hC) (fun _ _ hk => hk) (fun _ hk => hk.elim) (fun _ _ => trivial) HB hbase (by rw [chunks_length]; exact hl) ?_
  intro v1 w1 hr hb hg hat
  exact h v1 w1 (S_appended (fun k hk => (h0 k hk).1) hrep ⟨hrep2.1, fun j p hj => (tag f2 d).M_mono (fun k hk => hk.1) (hrep2.2 j p hj)⟩ hokp hfresh hr hg hat) hb hg hat
end
end Kd
theorem below_none {W w1 : World} (hg : W.grownBy w1 none) : Below W.heap.size W w1 := ⟨hg.os, hg.tape, hg.output, hg.size, fun i hi => hg.block i hi (by simp)⟩
theorem base_new {W : World} {v : Value} (h : ∃ b, v.ownBlock = some b ∧ W.heap.size ≤ b) : ∀ k, v.ownBlock = some k → W.heap.size ≤ k := by
  obtain ⟨b, hb, hle⟩ := h
  intro k hk
  rw [hb] at hk
  injection hk with hk
  omega
theorem impl_Box_side.keep {k : Nat} {s i r1 r2 r3 r4 r5 : Int} {a b : List Int} (h : impl_Box_side.f k s a b i = some (r1, r2, r3, r4, r5)) : s = r5 := by
  unfold impl_Box_side.f at h
  repeat' split at h
  all_goals first | (cases h; done) | (obtain ⟨t, _, h⟩ := Option.bind_eq_some_iff.mp h; obtain ⟨u, _, h⟩ := Option.bind_eq_some_iff.mp h; simp only [Option.some.injEq, Prod.mk.injEq] at h; exact h.2.2.2.2)
theorem z44_0 {P Q : Prop} (h : Aside0 (Q)) (f : Q → P := by intro h_; repeat (first | (with_reducible first | exact h_ | apply IsS27.alloc | apply IsS27.drewN | apply IsS27.drew | apply IsS27.set_0) | exact h_)) : P := f h.out
theorem z44_1 {w W0 W1 : World} {B : Nat} (h : Aside0 (Below B w W0)) (f : Below B w W0 → Below B w W1 := by intro h_; repeat (first | (with_reducible first | exact h_ | apply below_alloc | apply pw_below_drewN | apply below_drew1 | refine below_set ?_ (IsS27.ge (Aside0.out (by assumption)))) | exact h_)) : Below B w W1 := f h.out
theorem z44_2 {P Q : Prop} (h : Aside0 (Q)) (f : Q → P := by intro h_; repeat (first | (with_reducible first | exact h_ | apply IsS27.alloc | apply IsS27.drewN | apply IsS27.drew | apply IsS27.set_0 | refine IsS27.far ?_ (Aside0.out (by assumption)) _) | exact h_)) : P := f h.out
theorem z44_3 {w W0 W1 : World} {B : Nat} (h : Aside0 (Below B w W0)) (f : Below B w W0 → Below B w W1 := by intro h_; repeat (first | (with_reducible first | exact h_ | apply below_alloc | apply pw_below_drewN | apply below_drew1 | refine below_set ?_ (IsS27.ge (Aside0.out (by assumption))) | refine below_set ?_ (Aside0.out (by assumption))) | exact h_)) : Below B w W1 := f h.out
def impl_CornersOf.T12 : Bool × List (List Nat × List Nat) := (true, [([], []), ([], []), ([1], [1]), ([], []), ([3], [3]), ([2, 4, 2], [2, 4]), ([], []), ([6, 5], [6]), ([], []), ([8], [8]), ([7, 9, 7], [7, 9]), ([5, 10], [5, 10]), ([0, 11, 10], [0, 11]), ([12, 12, 0, 1, 2, 3, 4, 5, 6, 7, 8, 9, 10, 11, 12], [0, 12])])
def impl_CornersOf.B12 : List Nat := [0, 0, 2, 0, 8, 30, 0, 126, 0, 256, 1022, 2046, 4095, 8191]
theorem impl_CornersOf.tab12 : rtab .any (opsOf Try.f44 12) = impl_CornersOf.T12 := by kernel_rfl
theorem impl_CornersOf.bits12 : waitsOk impl_CornersOf.T12.2 impl_CornersOf.B12 = true := by kernel_rfl
set_option maxHeartbeats 8000000 in
set_option maxRecDepth 100000 in
theorem impl_CornersOf.calls (k : Nat) (a0_0 : Int) (A0_1 : Option Addr) (c0_1 : Nat) (l0_1 : List Int) (A0_2 : Option Addr) (c0_2 : Nat) (l0_2 : List Int) (r1 : List (List (S37))) (r2 : Bool) (w : World) (hr0_1 : Kd.C (Kd.int .i64) w A0_1 l0_1.length l0_1) (hc0_1 : l0_1.length ≤ c0_1) (hr0_2 : Kd.C (Kd.int .i64) w A0_2 l0_2.length l0_2) (hc0_2 : l0_2.length ≤ c0_2) (h : impl_CornersOf.f k a0_0 l0_1 l0_2 = some (r1, r2)) :
  Calls Try.prog 44 #[.agg #[.int .i64 a0_0, .slice A0_1 l0_1.length c0_1, .slice A0_2 l0_2.length c0_2]] w fun e w' => ∃ v0_ : Value, e = .returned (.tuple #[v0_, .bool r2]) ∧ Kd.S (Kd.slice 37 k37) 51 w' w.heap.size (fun k_ => (w.heap.size ≤ k_)) v0_ r1 ∧ Below w.heap.size w w' := by
 have hu27 := Try.underlying27
 have hu37 := Try.underlying37
 have HR0_1 := Aside0.mk hr0_1
 have HC0_1 := Aside0.mk hc0_1
 clear hr0_1 hc0_1
 have HR0_2 := Aside0.mk hr0_2
 have HC0_2 := Aside0.mk hc0_2
 clear hr0_2 hc0_2
 have HB := Aside0.mk (Below.refl w.heap.size w)
 have H : ((impl_isBox.f k a0_0 l0_1 l0_2).bind fun bt350 => (if bt350.1 = true then (impl_CornersOf.l0 k (([[]] : List (List (S37)))) (l0_1.length : Int) 0 bt350.2 l0_1 l0_2) else (some (([] : List (List (S37))), false)))) = some (r1, r2) := h
 clear h
 replace H := Option.bind_eq_some_iff.mp H
 obtain ⟨⟨t350, t351⟩, A20, H⟩ := H
 replace H : (if t350 = true then (impl_CornersOf.l0 k (([[]] : List (List (S37)))) (l0_1.length : Int) 0 t351 l0_1 l0_2) else (some (([] : List (List (S37))), false))) = some (r1, r2) := H
 have A2 := Aside0.mk A20
 clear A20
 by_cases c3 : t350 = true
 ·
  subst c3
  have H1 : (impl_CornersOf.l0 k (([[]] : List (List (S37)))) (l0_1.length : Int) 0 t351 l0_1 l0_2) = some (r1, r2) := by rw [if_pos rfl] at H; exact H
  clear H
  have H := H1
  clear H1
  obtain ⟨y352, hy352⟩ : ∃ y_ : List (List (S37)), y_ = (([[]] : List (List (S37)))) := ⟨_, rfl⟩
  replace H : (impl_CornersOf.l0 k y352 (l0_1.length : Int) 0 t351 l0_1 l0_2) = some (r1, r2) := by first | (rw [hy352]; with_reducible exact H) | (have H2_ := (Option.bind_some _ _).symm.trans H; rw [hy352]; with_reducible exact H2_) | (have H2_ := (Option.bind_some _ _).symm.trans H; with_reducible exact H2_) | with_reducible exact H | (rw [hy352]; exact H) | exact H
  have Ny352 := Aside0.mk hy352
  clear hy352
  have H' := Aside0.mk H
  clear H
  go_enter Try.func44, Try.ntmps44
  go_wp2_with (first | ((with_reducible refine gate_dst (N := 1) rfl ?_); refine zbe (N := 1) (cs := #[.int .i64 a0_0, .slice A0_1 l0_1.length c0_1, .slice A0_2 l0_2.length c0_2]) (t := 27) ?_; intro gb349 hg w4 hbox hb; have BK349 := Aside0.mk (hbox); have GW349 := Aside0.mk (zge (zb0 HB) hg); have GE349 := GW349; replace HB := Aside0.mk (below_step (zb0 HB) hb); clear hb hbox hg; have HI349 : Aside0 (IsS27 w w4 gb349 a0_0 l0_1 l0_2) := ⟨⟨A0_1, c0_1, A0_2, c0_2, (zq1 BK349), GE349.out, HR0_1.out, HR0_2.out⟩⟩) | ((with_reducible refine gate_callee (f := 57) rfl ?_); refine goesL_ (some 11) rfl rfl Try.func57 (by kernel_rfl) rfl #[.pointer (some ⟨gb349, 0, none⟩)] rfl zq6 ?_; (with_reducible refine (impl_isBox.calls k gb349 a0_0 l0_1 l0_2 true t351 w _ ?side1 ?side2 A2.out).mono ?_); (case side1 => exact z44_0 HI349); (case side2 => exact z44_1 HB); rintro e w5 ⟨rfl, hi, hb, hk⟩; refine ⟨_, rfl, ?_⟩; replace HB := Aside0.mk (hb); replace HI349 := Aside0.mk (hi); (try clear hb); (try clear hb2); (try clear hk); (try clear hi)) | ((with_reducible refine gate_dst (N := 13) rfl ?_); refine Kd.S_lit (Kd.slice 37 k37) _ 51 ?hg (N := 13) ?hd (xs := ([[]] : List (List (S37)))) (inner := [.slice none 0 0]) (ok := (fun k_ => (w.heap.size ≤ k_) ∧ k_ ≠ gb349)) (okp := (fun k_ => (w.heap.size ≤ k_) ∧ k_ ≠ gb349)) ?hr ?hp (fun _ hk => hk) ((show ∀ k_, w5.heap.size ≤ k_ → (fun k_ => (w.heap.size ≤ k_) ∧ k_ ≠ gb349) k_ from fun k_ hk => ⟨(Nat.le_trans (below_size (z44_1 HB)) hk), IsS27.fresh (z44_0 HI349) k_ hk⟩) _ (Nat.le_refl _)) (Below.refl _ _) (Nat.le_refl _) (by simp) ?_; (case hd => rfl); (case hg => rfl); (case hr => first | (go_simp; done) | (go_simp; rfl)); (case hp => exact (Reps.one (show (Kd.slice 37 k37).M _ _ _ [] [.slice none 0 0] from ⟨_, rfl, Kd.R_nil _ _ _ _ _⟩) (Reps.none _ _))); intro v353 w6 ho7 hb hg_ hnew_; clear hg_ hnew_; (first | rw [← Ny352.out] at ho7 | (simp only [Int.reduceToNat] at ho7; rw [← Ny352.out] at ho7)); have HO354 := Aside0.mk (Kd.S_lower ho7 (below_size (z44_1 HB))); replace HI349 := Aside0.mk (IsS27.below (z44_0 HI349) hb); replace HB := Aside0.mk (below_step (z44_1 HB) hb); clear hb ho7; obtain ⟨ASz8_1, cSz8_1, ASz8_2, cSz8_2, HGz8, hgz8, HSz8_1, HSz8_2⟩ := HI349.out; have hcz8_0 := cellS27_0 HGz8; have hcz8_1 := cellS27_1 HGz8; have hcz8_2 := cellS27_2 HGz8; have hfz8_0 := blk_frozen HGz8 0; clear HGz8 hgz8))
  go_loopg [4, 17] k (fun kq v4 v17 w' => ∃ (x4_1 : List (List (S37))) (x17_1 : Int), v17 = .int .i64 x17_1 ∧ Aside0 (impl_CornersOf.l0 kq x4_1 (l0_1.length : Int) x17_1 t351 l0_1 l0_2 = some (r1, r2)) ∧ Aside0 (kq ≤ k) ∧ Aside0 (Kd.S (Kd.slice 37 k37) 51 w' w.heap.size (fun k_ => (w.heap.size ≤ k_) ∧ k_ ≠ gb349) v4 x4_1) ∧ Aside0 (IsS27 w w' gb349 t351 l0_1 l0_2) ∧ Aside0 (Below w.heap.size w w'))
  case atStart => exact ⟨(y352), (0), (by first | rfl | (simp; done) | (simp [*]; done)), H', ⟨Nat.le_refl _⟩, ⟨by (with_reducible repeat (first | apply Kd.S_alloc | apply Kd.S_drewN | apply Kd.S_drew)); exact HO354.out⟩, ⟨(z44_0 HI349)⟩, ⟨(z44_1 HB)⟩⟩
  case round =>
   clear H'
   try clear p2
   try clear c3
   try clear c4
   try clear c5
   try clear hcz8_0
   try clear hcz8_1
   try clear hcz8_2
   try clear hfz8_0
   obtain ⟨x4_1, x17_1, rfl, HA, HK1, HO_4, HI349, HB⟩ := hrel
   cases gk with
   | zero => exact absurd HA.out (by simp [impl_CornersOf.l0])
   | succ k1 =>
    have H := HA.out
    clear HA
    simp only [impl_CornersOf.l0] at H
    by_cases c9 : x17_1 < (l0_1.length : Int)
    ·
     rw [if_pos c9] at H
     have c9b0 : decide (x17_1 < (l0_1.length : Int)) = true := decide_eq_true c9
     clear c9
     replace H := Option.bind_eq_some_iff.mp H
     obtain ⟨⟨t355, t356, t357, t358, t359⟩, A100, H⟩ := H
     have hk_ := impl_Box_side.keep A100
     subst hk_
     replace H : (impl_CornersOf.l1 k1 ([] : List (List (S37))) (l0_1.length : Int) x17_1 x4_1 (x4_1.length : Int) 0 t351 l0_1 l0_2 t355 t356 t357 t358) = some (r1, r2) := H
     have A10 := Aside0.mk A100
     clear A100
     have H' := Aside0.mk H
     clear H
     go_wp2_with (first | ((with_reducible refine gate_callee (f := 66) rfl ?_); refine goesL_ (some 22) rfl rfl Try.func66 (by kernel_rfl) rfl #[.pointer (some ⟨gb349, 0, none⟩), .int .i64 x17_1] rfl zq6 ?_; (with_reducible refine (impl_Box_side.calls k1 gb349 t351 l0_1 l0_2 x17_1 t355 t356 t357 t358 t351 w _ ?side1 ?side2 A10.out).mono ?_); (case side1 => exact z44_0 HI349); (case side2 => exact z44_1 HB); rintro e w11 ⟨rfl, hi, hb, hk⟩; refine ⟨_, rfl, ?_⟩; replace HO_4 := Aside0.mk (Kd.S_mono (Kd.S_keep (Kd.S_mono (ok := fun k_ => (((w.heap.size ≤ k_)) ∧ k_ ≠ gb349)) (by (with_reducible repeat (first | apply Kd.S_alloc | apply Kd.S_drewN | apply Kd.S_drew)); exact HO_4.out) (fun k_ hk_ => (⟨hk_, hk_.2⟩ : _ ∧ k_ ≠ gb349))) hk (fun _ h => h.2)) (fun _ h => h.1)); replace HB := Aside0.mk (hb); replace HI349 := Aside0.mk (hi); (try clear hb); (try clear hb2); (try clear hk); (try clear hi)) | ((with_reducible refine gate_dst (N := 6) rfl ?_); refine zbe (N := 6) (cs := #[.int .i64 0, .int .i64 0]) (t := 37) ?_; intro gb360 hg w12 hbox hb; have BK360 := Aside0.mk (hbox); have GW360 := Aside0.mk (zge (z44_1 HB) hg); have GE360 := GW360; have NB349_360 := Aside0.mk ((by rw [hg]; exact Nat.ne_of_lt (IsS27.lt (show IsS27 w _ gb349 t351 l0_1 l0_2 from (z44_0 HI349))) : gb349 ≠ gb360)); have NB360_349 := Aside0.mk ((by rw [hg]; exact Nat.ne_of_gt (IsS27.lt (show IsS27 w _ gb349 t351 l0_1 l0_2 from (z44_0 HI349))) : gb360 ≠ gb349)); replace HO_4 := Aside0.mk (Kd.S_below (Kd.S_elderB (by (with_reducible repeat (first | apply Kd.S_alloc | apply Kd.S_drewN | apply Kd.S_drew)); exact HO_4.out) gb360 (Nat.le_of_eq hg.symm)) hb); replace HI349 := Aside0.mk (IsS27.below (z44_0 HI349) hb); replace HB := Aside0.mk (below_step (z44_1 HB) hb); clear hb hbox hg) | ((with_reducible refine gate_dst (N := 7) rfl ?_); refine zbe (N := 7) (cs := #[.int .i64 0, .int .i64 0]) (t := 37) ?_; intro gb361 hg w13 hbox hb; have BK361 := Aside0.mk (hbox); have GW361 := Aside0.mk (zge (z44_3 HB) hg); have GE361 := GW361; have NB360_361 := Aside0.mk (zlt BK360 hg); have NB361_360 := Aside0.mk (zgt BK360 hg); have NB349_361 := Aside0.mk ((by rw [hg]; exact Nat.ne_of_lt (IsS27.lt (show IsS27 w _ gb349 t351 l0_1 l0_2 from (z44_2 HI349))) : gb349 ≠ gb361)); have NB361_349 := Aside0.mk ((by rw [hg]; exact Nat.ne_of_gt (IsS27.lt (show IsS27 w _ gb349 t351 l0_1 l0_2 from (z44_2 HI349))) : gb361 ≠ gb349)); replace HO_4 := Aside0.mk (Kd.S_below (Kd.S_elderB (by (with_reducible repeat (first | apply Kd.S_alloc | apply Kd.S_drewN | apply Kd.S_drew)); exact HO_4.out) gb361 (Nat.le_of_eq hg.symm)) hb); replace HI349 := Aside0.mk (IsS27.below (z44_2 HI349) hb); replace BK360 := Aside0.mk (zbb BK360 hb); replace HB := Aside0.mk (below_step (z44_3 HB) hb); clear hb hbox hg; have hnb14 := NB360_361.out; have hnc14 := NB361_360.out; have hnb15 := NB360_349.out; have hnc15 := NB349_360.out; have hcz16_0 : w13.cell? ⟨gb360, 0, none⟩ = some (.int .i64 0) := zc BK360 0; have hcz16_1 : w13.cell? ⟨gb360, 1, none⟩ = some (.int .i64 0) := zc BK360 1; have hfz16_0 := blk_frozen BK360.out 0; have hfz16_1 := blk_frozen BK360.out 1; have hnb17 := NB361_349.out; have hnc17 := NB349_361.out; have hcz18_0 : w13.cell? ⟨gb361, 0, none⟩ = some (.int .i64 0) := zc BK361 0; have hcz18_1 : w13.cell? ⟨gb361, 1, none⟩ = some (.int .i64 0) := zc BK361 1; have hfz18_0 := blk_frozen BK361.out 0; have hfz18_1 := blk_frozen BK361.out 1; obtain ⟨Ao19, co19, eo19⟩ := Kd.S_slice HO_4.out; subst eo19))
     go_loopg [8, 27] k1 (fun kq v8 v27 w' => ∃ (x8_2 : List (List (S37))) (x27_2 : Int), v27 = .int .i64 x27_2 ∧ Aside0 (impl_CornersOf.l1 kq x8_2 (l0_1.length : Int) x17_1 x4_1 (x4_1.length : Int) x27_2 t351 l0_1 l0_2 t355 t356 t357 t358 = some (r1, r2)) ∧ Aside0 (kq ≤ k1) ∧ Aside0 (Kd.S (Kd.slice 37 k37) 51 w' w.heap.size (fun k_ => (w.heap.size ≤ k_) ∧ some k_ ≠ ((.slice Ao19 x4_1.length co19) : Value).ownBlock ∧ k_ ≠ gb360 ∧ k_ ≠ gb361 ∧ k_ ≠ gb349) v8 x8_2) ∧ Aside0 (Kd.S (Kd.slice 37 k37) 51 w' w.heap.size (fun k_ => (w.heap.size ≤ k_) ∧ some k_ ≠ (v8 : Value).ownBlock ∧ k_ ≠ gb360 ∧ k_ ≠ gb361 ∧ k_ ≠ gb349) (.slice Ao19 x4_1.length co19) x4_1) ∧ Aside0 (w'.heap[gb360]? = some (.cells #[.int .i64 t355, .int .i64 t356] 37 (0, 0))) ∧ Aside0 (w'.heap[gb361]? = some (.cells #[.int .i64 t357, .int .i64 t358] 37 (0, 0))) ∧ Aside0 (IsS27 w w' gb349 t351 l0_1 l0_2) ∧ Aside0 (Below w.heap.size w w'))
     case atStart => exact ⟨(([] : List (List (S37)))), (0), (by first | rfl | (simp; done) | (simp [*]; done)), H', ⟨Nat.le_refl _⟩, ⟨by first | exact Kd.S_nil _ _ _ _ _ | exact Kd.S_nil _ _ _ _ _ | exact Kd.V_nil _ _ _ _ _ | exact Kd.Q_nil _ _ _ _ _ | exact Kd.R_nil _ _ _ _ _⟩, ⟨by (with_reducible repeat (first | apply Kd.S_alloc | apply Kd.S_drewN | apply Kd.S_drew)); exact Kd.S_mono (Kd.S_far (p := ⟨gb361, 1, none⟩) (Kd.S_far (p := ⟨gb361, 0, none⟩) (Kd.S_far (p := ⟨gb360, 1, none⟩) (Kd.S_far (p := ⟨gb360, 0, none⟩) (Kd.S_mono (Kd.S_mono HO_4.out (fun k_ hk => (⟨hk, hk.1.2⟩ : _ ∧ k_ ≠ gb360))) (fun k_ hk => (⟨hk, hk.1.2⟩ : _ ∧ k_ ≠ gb361))) (fun _ hk => hk.1.2) (.int .i64 t355)) (fun _ hk => hk.1.2) (.int .i64 t356)) (fun _ hk => hk.2) (.int .i64 t357)) (fun _ hk => hk.2) (.int .i64 t358)) (fun _ hk => ⟨hk.1.1.1.1.1, ⟨(by simp [Value.ownBlock]), ⟨hk.1.1.1.2, ⟨hk.1.1.2, hk.1.1.1.1.2⟩⟩⟩⟩)⟩, ⟨by (with_reducible repeat (first | refine blk_drewN ?_ _ | refine blk_drew ?_ | refine blk_alloc ?_ _)); refine blk_far ?_ NB360_361.out _; (with_reducible repeat (first | refine blk_drewN ?_ _ | refine blk_drew ?_ | refine blk_alloc ?_ _)); refine blk_far ?_ NB360_361.out _; (with_reducible repeat (first | refine blk_drewN ?_ _ | refine blk_drew ?_ | refine blk_alloc ?_ _)); refine blk_put (cs := #[.int .i64 t355, .int .i64 0]) ?_ 1 _ rfl; (with_reducible repeat (first | refine blk_drewN ?_ _ | refine blk_drew ?_ | refine blk_alloc ?_ _)); refine blk_put (cs := #[.int .i64 0, .int .i64 0]) ?_ 0 _ rfl; (with_reducible repeat (first | refine blk_drewN ?_ _ | refine blk_drew ?_ | refine blk_alloc ?_ _)); exact BK360.out⟩, ⟨by (with_reducible repeat (first | refine blk_drewN ?_ _ | refine blk_drew ?_ | refine blk_alloc ?_ _)); refine blk_put (cs := #[.int .i64 t357, .int .i64 0]) ?_ 1 _ rfl; (with_reducible repeat (first | refine blk_drewN ?_ _ | refine blk_drew ?_ | refine blk_alloc ?_ _)); refine blk_put (cs := #[.int .i64 0, .int .i64 0]) ?_ 0 _ rfl; (with_reducible repeat (first | refine blk_drewN ?_ _ | refine blk_drew ?_ | refine blk_alloc ?_ _)); refine blk_far ?_ NB361_360.out _; (with_reducible repeat (first | refine blk_drewN ?_ _ | refine blk_drew ?_ | refine blk_alloc ?_ _)); refine blk_far ?_ NB361_360.out _; (with_reducible repeat (first | refine blk_drewN ?_ _ | refine blk_drew ?_ | refine blk_alloc ?_ _)); exact BK361.out⟩, ⟨(z44_2 HI349)⟩, ⟨(z44_3 HB)⟩⟩
     case round =>
      clear H'
      try clear c1
      try clear p2
      try clear c3
      try clear c4
      try clear c5
      try clear c6
      try clear c9
      try clear c9b0
      try clear c14
      try clear c15
      try clear c17
      try clear hcz16_0
      try clear hcz16_1
      try clear hcz18_0
      try clear hcz18_1
      try clear hcz8_0
      try clear hcz8_1
      try clear hcz8_2
      try clear hfz16_0
      try clear hfz16_1
      try clear hfz18_0
      try clear hfz18_1
      try clear hfz8_0
      try clear p2
      obtain ⟨x8_2, x27_2, rfl, HA, HK2, HO_8, HO_25, BK360, BK361, HI349, HB⟩ := hrel
      cases gk with
      | zero => exact absurd HA.out (by simp [impl_CornersOf.l1])
      | succ k2 =>
       have H := HA.out
       clear HA
       simp only [impl_CornersOf.l1] at H
       by_cases c20 : x27_2 < (x4_1.length : Int)
       ·
        rw [if_pos c20] at H
        have c20b0 : decide (x27_2 < (x4_1.length : Int)) = true := decide_eq_true c20
        clear c20
        by_cases c21 : 0 ≤ x27_2
        ·
         rw [if_pos c21] at H
         have c21b0 : decide (0 ≤ x27_2) = true := decide_eq_true c21
         clear c21
         by_cases c22 : x27_2 < (x4_1.length : Int)
         ·
          rw [if_pos c22] at H
          have c22b0 : decide (x27_2 < (x4_1.length : Int)) = true := decide_eq_true c22
          clear c22
          replace H := Option.bind_eq_some_iff.mp H
          obtain ⟨t363, A230, H⟩ := H
          replace H : ((some (([(⟨t355, t356⟩ : S37)] : List (S37)) : List (S37))).bind fun y366 => (if t363.length + y366.length < 8796093022208 then ((impl_Dyadic.f (rd_L4 x4_1 x27_2)).bind fun t372 => ((some (([(⟨t357, t358⟩ : S37)] : List (S37)) : List (S37))).bind fun y375 => (if t372.length + y375.length < 8796093022208 then ((some (([(t363 ++ y366), (t372 ++ y375)] : List (List (S37))) : List (List (S37)))).bind fun y381 => (if x8_2.length + y381.length < 5864062014805 then (impl_CornersOf.l1 k2 (x8_2 ++ y381) (l0_1.length : Int) x17_1 x4_1 (x4_1.length : Int) (wrap64 (x27_2 + 1)) t351 l0_1 l0_2 t355 t356 t357 t358) else (none))) else (none)))) else (none))) = some (r1, r2) := H
          have A23 := Aside0.mk A230
          clear A230
          obtain ⟨y366, hy366⟩ : ∃ y_ : List (S37), y_ = (([(⟨t355, t356⟩ : S37)] : List (S37))) := ⟨_, rfl⟩
          replace H : (if t363.length + y366.length < 8796093022208 then ((impl_Dyadic.f (rd_L4 x4_1 x27_2)).bind fun t372 => ((some (([(⟨t357, t358⟩ : S37)] : List (S37)) : List (S37))).bind fun y375 => (if t372.length + y375.length < 8796093022208 then ((some (([(t363 ++ y366), (t372 ++ y375)] : List (List (S37))) : List (List (S37)))).bind fun y381 => (if x8_2.length + y381.length < 5864062014805 then (impl_CornersOf.l1 k2 (x8_2 ++ y381) (l0_1.length : Int) x17_1 x4_1 (x4_1.length : Int) (wrap64 (x27_2 + 1)) t351 l0_1 l0_2 t355 t356 t357 t358) else (none))) else (none)))) else (none)) = some (r1, r2) := by first | (rw [hy366]; with_reducible exact H) | (have H2_ := (Option.bind_some _ _).symm.trans H; rw [hy366]; with_reducible exact H2_) | (have H2_ := (Option.bind_some _ _).symm.trans H; with_reducible exact H2_) | with_reducible exact H | (rw [hy366]; exact H) | exact H
          have Ny366 := Aside0.mk hy366
          clear hy366
          by_cases c24 : t363.length + y366.length < 8796093022208
          ·
           rw [if_pos c24] at H
           have LMc24 := Aside0.mk c24
           clear c24
           obtain ⟨y369, hy369⟩ : ∃ y_ : List (S37), y_ = (t363 ++ y366) := ⟨_, rfl⟩
           replace H : ((impl_Dyadic.f (rd_L4 x4_1 x27_2)).bind fun t372 => ((some (([(⟨t357, t358⟩ : S37)] : List (S37)) : List (S37))).bind fun y375 => (if t372.length + y375.length < 8796093022208 then ((some (([y369, (t372 ++ y375)] : List (List (S37))) : List (List (S37)))).bind fun y381 => (if x8_2.length + y381.length < 5864062014805 then (impl_CornersOf.l1 k2 (x8_2 ++ y381) (l0_1.length : Int) x17_1 x4_1 (x4_1.length : Int) (wrap64 (x27_2 + 1)) t351 l0_1 l0_2 t355 t356 t357 t358) else (none))) else (none)))) = some (r1, r2) := by first | (rw [hy369]; with_reducible exact H) | (have H2_ := (Option.bind_some _ _).symm.trans H; rw [hy369]; with_reducible exact H2_) | (have H2_ := (Option.bind_some _ _).symm.trans H; with_reducible exact H2_) | with_reducible exact H | (rw [hy369]; exact H) | exact H
           have Ny369 := Aside0.mk hy369
           clear hy369
           replace H := Option.bind_eq_some_iff.mp H
           obtain ⟨t372, A250, H⟩ := H
           replace H : ((some (([(⟨t357, t358⟩ : S37)] : List (S37)) : List (S37))).bind fun y375 => (if t372.length + y375.length < 8796093022208 then ((some (([y369, (t372 ++ y375)] : List (List (S37))) : List (List (S37)))).bind fun y381 => (if x8_2.length + y381.length < 5864062014805 then (impl_CornersOf.l1 k2 (x8_2 ++ y381) (l0_1.length : Int) x17_1 x4_1 (x4_1.length : Int) (wrap64 (x27_2 + 1)) t351 l0_1 l0_2 t355 t356 t357 t358) else (none))) else (none))) = some (r1, r2) := H
           have A25 := Aside0.mk A250
           clear A250
           obtain ⟨y375, hy375⟩ : ∃ y_ : List (S37), y_ = (([(⟨t357, t358⟩ : S37)] : List (S37))) := ⟨_, rfl⟩
           replace H : (if t372.length + y375.length < 8796093022208 then ((some (([y369, (t372 ++ y375)] : List (List (S37))) : List (List (S37)))).bind fun y381 => (if x8_2.length + y381.length < 5864062014805 then (impl_CornersOf.l1 k2 (x8_2 ++ y381) (l0_1.length : Int) x17_1 x4_1 (x4_1.length : Int) (wrap64 (x27_2 + 1)) t351 l0_1 l0_2 t355 t356 t357 t358) else (none))) else (none)) = some (r1, r2) := by first | (rw [hy375]; with_reducible exact H) | (have H2_ := (Option.bind_some _ _).symm.trans H; rw [hy375]; with_reducible exact H2_) | (have H2_ := (Option.bind_some _ _).symm.trans H; with_reducible exact H2_) | with_reducible exact H | (rw [hy375]; exact H) | exact H
           have Ny375 := Aside0.mk hy375
           clear hy375
           by_cases c26 : t372.length + y375.length < 8796093022208
           ·
            rw [if_pos c26] at H
            have LMc26 := Aside0.mk c26
            clear c26
            obtain ⟨y378, hy378⟩ : ∃ y_ : List (S37), y_ = (t372 ++ y375) := ⟨_, rfl⟩
            replace H : ((some (([y369, y378] : List (List (S37))) : List (List (S37)))).bind fun y381 => (if x8_2.length + y381.length < 5864062014805 then (impl_CornersOf.l1 k2 (x8_2 ++ y381) (l0_1.length : Int) x17_1 x4_1 (x4_1.length : Int) (wrap64 (x27_2 + 1)) t351 l0_1 l0_2 t355 t356 t357 t358) else (none))) = some (r1, r2) := by first | (rw [hy378]; with_reducible exact H) | (have H2_ := (Option.bind_some _ _).symm.trans H; rw [hy378]; with_reducible exact H2_) | (have H2_ := (Option.bind_some _ _).symm.trans H; with_reducible exact H2_) | with_reducible exact H | (rw [hy378]; exact H) | exact H
            have Ny378 := Aside0.mk hy378
            clear hy378
            obtain ⟨y381, hy381⟩ : ∃ y_ : List (List (S37)), y_ = (([y369, y378] : List (List (S37)))) := ⟨_, rfl⟩
            replace H : (if x8_2.length + y381.length < 5864062014805 then (impl_CornersOf.l1 k2 (x8_2 ++ y381) (l0_1.length : Int) x17_1 x4_1 (x4_1.length : Int) (wrap64 (x27_2 + 1)) t351 l0_1 l0_2 t355 t356 t357 t358) else (none)) = some (r1, r2) := by first | (rw [hy381]; with_reducible exact H) | (have H2_ := (Option.bind_some _ _).symm.trans H; rw [hy381]; with_reducible exact H2_) | (have H2_ := (Option.bind_some _ _).symm.trans H; with_reducible exact H2_) | with_reducible exact H | (rw [hy381]; exact H) | exact H
            have Ny381 := Aside0.mk hy381
            clear hy381
            by_cases c27 : x8_2.length + y381.length < 5864062014805
            ·
             rw [if_pos c27] at H
             have LMc27 := Aside0.mk c27
             clear c27
             obtain ⟨y384, hy384⟩ : ∃ y_ : List (List (S37)), y_ = (x8_2 ++ y381) := ⟨_, rfl⟩
             replace H : (impl_CornersOf.l1 k2 y384 (l0_1.length : Int) x17_1 x4_1 (x4_1.length : Int) (wrap64 (x27_2 + 1)) t351 l0_1 l0_2 t355 t356 t357 t358) = some (r1, r2) := by first | (rw [hy384]; with_reducible exact H) | (have H2_ := (Option.bind_some _ _).symm.trans H; rw [hy384]; with_reducible exact H2_) | (have H2_ := (Option.bind_some _ _).symm.trans H; with_reducible exact H2_) | with_reducible exact H | (rw [hy384]; exact H) | exact H
             have Ny384 := Aside0.mk hy384
             clear hy384
             have H' := Aside0.mk H
             clear H
             have p362 : 0 ≤ (x27_2 : Int) := of_decide_eq_true (by first | (with_reducible assumption) | assumption)
             have q362 : x27_2 < (x4_1.length : Int) := of_decide_eq_true (by first | (with_reducible assumption) | assumption)
             obtain ⟨ad362, A362_0, c362_0, e362, hx362_0, hl362_0, hi362_0⟩ := at_L4 (Kd.S_reads' HO_25.out).2.2 x27_2 p362 q362
             cases e362
             obtain ⟨ce362, hce362, hMe362, hcc362⟩ := Kd.N_get (Kd.S_N HO_25.out) [] x27_2 p362 (by first | exact q362 | exact of_decide_eq_true (by first | (with_reducible assumption) | assumption) | (have e_ := (Kd.S_reads' HO_25.out).1; omega))
             obtain ⟨ua362_0, uc362_0, rfl, ul362_0, ge362_0⟩ := Kd.FK_slice_open hMe362
             have hv362_0 := hcc362 0 _ rfl
             rw [Nat.add_zero, show ((Kd.slice 37 k37)).sz = 1 from rfl, Nat.mul_one] at hv362_0
             replace hv362_0 := Option.some.inj (hv362_0.symm.trans hx362_0)
             injection hv362_0 with hva_ hvn_ hvc_
             rw [hva_] at ge362_0
             rw [hvc_] at ul362_0
             have HL362_0 := Aside0.mk (show Kd.V k37 37 _ w.heap.size _ _ (rd_L4 x4_1 x27_2) from Kd.V_mk ul362_0 ge362_0)
             clear hva_ hvn_ hvc_ ge362_0 ul362_0 hcc362 hce362
             have HR362_0 := Aside0.mk hi362_0
             have HC362_0 := Aside0.mk hl362_0
             clear hi362_0 hl362_0
             replace p362 := eq_true p362
             replace q362 := eq_true q362
             obtain ⟨Ao28, co28, eo28⟩ := Kd.S_slice HO_8.out
             subst eo28
             try go_wp2
             replace HO_8 := Aside0.mk (Kd.S_drew HO_8.out); replace HO_25 := Aside0.mk (Kd.S_drew HO_25.out); replace HL362_0 := Aside0.mk (Kd.V_drew HL362_0.out); replace BK360 := Aside0.mk (blk_drew BK360.out); replace BK361 := Aside0.mk (blk_drew BK361.out); replace HR362_0 := Aside0.mk (Kd.C_drew HR362_0.out); replace HI349 := Aside0.mk (IsS27.drew HI349.out); replace HB := Aside0.mk (below_drew1 HB.out)
             refine start_ (n := 14) (S := fun w' => w'.cell? ⟨gb360, 0, none⟩ = some (.int .i64 t355) ∧ w'.cell? ⟨gb360, 1, none⟩ = some (.int .i64 t356) ∧ w'.cell? ⟨gb361, 0, none⟩ = some (.int .i64 t357) ∧ w'.cell? ⟨gb361, 1, none⟩ = some (.int .i64 t358)) (ds := []) #[false, false, false, false, false, false, false, false, false, false, false, false, false, false] (by kernel_rfl) rfl rfl ⟨zc BK360 0, zc BK360 1, zc BK361 0, zc BK361 1⟩ (fun hHeld => ?_); refine with_tabW impl_CornersOf.tab12 impl_CornersOf.bits12 (fun HT_ HW_ => ?_)
             generalize wr.drew = w29 at HO_8 HO_25 HL362_0 BK360 BK361 HR362_0 HI349 HB hHeld ⊢
             refine zp (i := 0) (N := some 31) #[true, false, false, false, false, false, false, false, false, false, false, false, false, false] (any_of HT_.out (by kernel_rfl)) ?_
             refine zp (i := 1) (N := some 32) #[true, true, false, false, false, false, false, false, false, false, false, false, false, false] (any_of HT_.out (by kernel_rfl)) ?_
             refine zp (i := 6) (N := some 37) #[true, true, false, false, false, false, true, false, false, false, false, false, false, false] (any_of HT_.out (by kernel_rfl)) ?_
             refine take_ (i := 3) (N := some 34) (v := ?_) (a' := ?_) #[true, true, false, true, false, false, true, false, false, false, false, false, false, false] rfl rfl (take_ofW HT_.out HW_.out (by kernel_rfl)) (fun _ _ _ h => h) (Or.inl ⟨by rfl, ?_⟩) hHeld ?_ ?_
             rotate_left
             ·
              rintro w' ⟨s0, s1, s2, s3⟩
              go_simp
              with_reducible rfl
             rotate_left
             ·
              simp only [Act.put, List.setIfInBounds_toArray, List.set_cons_zero, List.set_cons_succ, i64_w, i32_w]
              rfl
             refine take_ (i := 8) (N := some 39) (v := ?_) (a' := ?_) #[true, true, false, true, false, false, true, false, true, false, false, false, false, false] rfl rfl (take_ofW HT_.out HW_.out (by kernel_rfl)) (fun _ _ _ h => h) (Or.inl ⟨by rfl, ?_⟩) hHeld ?_ ?_
             rotate_left
             ·
              rintro w' ⟨s0, s1, s2, s3⟩
              go_simp
              with_reducible rfl
             rotate_left
             ·
              simp only [Act.put, List.setIfInBounds_toArray, List.set_cons_zero, List.set_cons_succ, i64_w, i32_w]
              rfl
             refine join_ (σ := Value × Value × Value × Value × Value) 4 #[true, true, true, true, true, true, true, true, true, true, false, false, false, false] (fun s_ => [(33, s_.1), (35, s_.2.1), (36, s_.2.2.1), (38, s_.2.2.2.1), (40, s_.2.2.2.2)]) (fun s_ w' => (w'.cell? ⟨gb360, 0, none⟩ = some (.int .i64 t355) ∧ w'.cell? ⟨gb360, 1, none⟩ = some (.int .i64 t356) ∧ w'.cell? ⟨gb361, 0, none⟩ = some (.int .i64 t357) ∧ w'.cell? ⟨gb361, 1, none⟩ = some (.int .i64 t358)) ∧ (Kd.V k37 37 w' w.heap.size (fun k_ => (w.heap.size ≤ k_) ∧ some k_ ≠ (s_.2.1 : Value).ownBlock ∧ some k_ ≠ (s_.2.2.1 : Value).ownBlock ∧ some k_ ≠ (s_.2.2.2.1 : Value).ownBlock ∧ some k_ ≠ (s_.2.2.2.2 : Value).ownBlock ∧ some k_ ≠ (.slice (some ad362) x4_1.length co19 : Value).ownBlock ∧ some k_ ≠ (.slice Ao28 x8_2.length co28 : Value).ownBlock ∧ k_ ≠ gb349 ∧ k_ ≠ gb360 ∧ k_ ≠ gb361) (.slice A362_0 (rd_L4 x4_1 x27_2).length c362_0) (rd_L4 x4_1 x27_2)) ∧ (Kd.R k37 37 w' w.heap.size (fun k_ => (w.heap.size ≤ k_) ∧ some k_ ≠ (s_.2.2.1 : Value).ownBlock ∧ some k_ ≠ (s_.2.2.2.1 : Value).ownBlock ∧ some k_ ≠ (s_.2.2.2.2 : Value).ownBlock ∧ k_ ≠ gb360 ∧ k_ ≠ gb361) s_.2.1 y366) ∧ (Kd.R k37 37 w' w.heap.size (fun k_ => (w.heap.size ≤ k_) ∧ some k_ ≠ (s_.2.1 : Value).ownBlock ∧ some k_ ≠ (s_.2.2.2.1 : Value).ownBlock ∧ some k_ ≠ (s_.2.2.2.2 : Value).ownBlock ∧ k_ ≠ gb360 ∧ k_ ≠ gb361) s_.2.2.1 y369) ∧ (Kd.R k37 37 w' w.heap.size (fun k_ => (w.heap.size ≤ k_) ∧ some k_ ≠ (s_.2.1 : Value).ownBlock ∧ some k_ ≠ (s_.2.2.1 : Value).ownBlock ∧ some k_ ≠ (s_.2.2.2.2 : Value).ownBlock ∧ k_ ≠ gb360 ∧ k_ ≠ gb361) s_.2.2.2.1 t372) ∧ (Kd.R k37 37 w' w.heap.size (fun k_ => (w.heap.size ≤ k_) ∧ some k_ ≠ (s_.2.1 : Value).ownBlock ∧ some k_ ≠ (s_.2.2.1 : Value).ownBlock ∧ some k_ ≠ (s_.2.2.2.1 : Value).ownBlock ∧ k_ ≠ gb360 ∧ k_ ≠ gb361) s_.2.2.2.2 y375) ∧ (Kd.S (Kd.slice 37 k37) 51 w' w.heap.size (fun k_ => (w.heap.size ≤ k_) ∧ some k_ ≠ (s_.2.1 : Value).ownBlock ∧ some k_ ≠ (s_.2.2.1 : Value).ownBlock ∧ some k_ ≠ (s_.2.2.2.1 : Value).ownBlock ∧ some k_ ≠ (s_.2.2.2.2 : Value).ownBlock ∧ some k_ ≠ (.slice Ao28 x8_2.length co28 : Value).ownBlock ∧ k_ ≠ gb349 ∧ k_ ≠ gb360 ∧ k_ ≠ gb361) (.slice (some ad362) x4_1.length co19) x4_1) ∧ (Kd.S (Kd.slice 37 k37) 51 w' w.heap.size (fun k_ => (w.heap.size ≤ k_) ∧ some k_ ≠ (s_.2.1 : Value).ownBlock ∧ some k_ ≠ (s_.2.2.1 : Value).ownBlock ∧ some k_ ≠ (s_.2.2.2.1 : Value).ownBlock ∧ some k_ ≠ (s_.2.2.2.2 : Value).ownBlock ∧ some k_ ≠ (.slice (some ad362) x4_1.length co19 : Value).ownBlock ∧ k_ ≠ gb349 ∧ k_ ≠ gb360 ∧ k_ ≠ gb361) (.slice Ao28 x8_2.length co28) x8_2) ∧ (w'.heap[gb360]? = some (.cells #[.int .i64 t355, .int .i64 t356] 37 (0, 0))) ∧ (w'.heap[gb361]? = some (.cells #[.int .i64 t357, .int .i64 t358] 37 (0, 0))) ∧ (IsS27 w w' gb349 t351 l0_1 l0_2) ∧ (Below w.heap.size w w')) ?_ ?_
             rotate_left
             ·
              intro hJ2_4_5_7_9
              refine join_ (σ := Value × Value × Value × Value) 5 #[true, true, true, true, true, true, true, true, true, false, false, false, false, false] (fun s_ => [(33, s_.1), (35, s_.2.1), (36, s_.2.2.1), (38, s_.2.2.2)]) (fun s_ w' => (w'.cell? ⟨gb360, 0, none⟩ = some (.int .i64 t355) ∧ w'.cell? ⟨gb360, 1, none⟩ = some (.int .i64 t356) ∧ w'.cell? ⟨gb361, 0, none⟩ = some (.int .i64 t357) ∧ w'.cell? ⟨gb361, 1, none⟩ = some (.int .i64 t358)) ∧ (Kd.V k37 37 w' w.heap.size (fun k_ => (w.heap.size ≤ k_) ∧ some k_ ≠ (s_.2.1 : Value).ownBlock ∧ some k_ ≠ (s_.2.2.1 : Value).ownBlock ∧ some k_ ≠ (s_.2.2.2 : Value).ownBlock ∧ some k_ ≠ (.slice (some ad362) x4_1.length co19 : Value).ownBlock ∧ some k_ ≠ (.slice Ao28 x8_2.length co28 : Value).ownBlock ∧ k_ ≠ gb349 ∧ k_ ≠ gb360 ∧ k_ ≠ gb361) (.slice A362_0 (rd_L4 x4_1 x27_2).length c362_0) (rd_L4 x4_1 x27_2)) ∧ (Kd.R k37 37 w' w.heap.size (fun k_ => (w.heap.size ≤ k_) ∧ some k_ ≠ (s_.2.2.1 : Value).ownBlock ∧ some k_ ≠ (s_.2.2.2 : Value).ownBlock ∧ k_ ≠ gb360 ∧ k_ ≠ gb361) s_.2.1 y366) ∧ (Kd.R k37 37 w' w.heap.size (fun k_ => (w.heap.size ≤ k_) ∧ some k_ ≠ (s_.2.1 : Value).ownBlock ∧ some k_ ≠ (s_.2.2.2 : Value).ownBlock ∧ k_ ≠ gb360 ∧ k_ ≠ gb361) s_.2.2.1 y369) ∧ (Kd.R k37 37 w' w.heap.size (fun k_ => (w.heap.size ≤ k_) ∧ some k_ ≠ (s_.2.1 : Value).ownBlock ∧ some k_ ≠ (s_.2.2.1 : Value).ownBlock ∧ k_ ≠ gb360 ∧ k_ ≠ gb361) s_.2.2.2 t372) ∧ (Kd.S (Kd.slice 37 k37) 51 w' w.heap.size (fun k_ => (w.heap.size ≤ k_) ∧ some k_ ≠ (s_.2.1 : Value).ownBlock ∧ some k_ ≠ (s_.2.2.1 : Value).ownBlock ∧ some k_ ≠ (s_.2.2.2 : Value).ownBlock ∧ some k_ ≠ (.slice Ao28 x8_2.length co28 : Value).ownBlock ∧ k_ ≠ gb349 ∧ k_ ≠ gb360 ∧ k_ ≠ gb361) (.slice (some ad362) x4_1.length co19) x4_1) ∧ (Kd.S (Kd.slice 37 k37) 51 w' w.heap.size (fun k_ => (w.heap.size ≤ k_) ∧ some k_ ≠ (s_.2.1 : Value).ownBlock ∧ some k_ ≠ (s_.2.2.1 : Value).ownBlock ∧ some k_ ≠ (s_.2.2.2 : Value).ownBlock ∧ some k_ ≠ (.slice (some ad362) x4_1.length co19 : Value).ownBlock ∧ k_ ≠ gb349 ∧ k_ ≠ gb360 ∧ k_ ≠ gb361) (.slice Ao28 x8_2.length co28) x8_2) ∧ (w'.heap[gb360]? = some (.cells #[.int .i64 t355, .int .i64 t356] 37 (0, 0))) ∧ (w'.heap[gb361]? = some (.cells #[.int .i64 t357, .int .i64 t358] 37 (0, 0))) ∧ (IsS27 w w' gb349 t351 l0_1 l0_2) ∧ (Below w.heap.size w w')) ?_ ?_
              rotate_left
              ·
               intro hJ2_4_5_7
               refine join_ (σ := Value × Value × Value × Value) 5 #[true, true, true, true, true, true, true, false, true, true, false, false, false, false] (fun s_ => [(33, s_.1), (35, s_.2.1), (36, s_.2.2.1), (40, s_.2.2.2)]) (fun s_ w' => (w'.cell? ⟨gb360, 0, none⟩ = some (.int .i64 t355) ∧ w'.cell? ⟨gb360, 1, none⟩ = some (.int .i64 t356) ∧ w'.cell? ⟨gb361, 0, none⟩ = some (.int .i64 t357) ∧ w'.cell? ⟨gb361, 1, none⟩ = some (.int .i64 t358)) ∧ (Kd.V k37 37 w' w.heap.size (fun k_ => (w.heap.size ≤ k_) ∧ some k_ ≠ (s_.2.1 : Value).ownBlock ∧ some k_ ≠ (s_.2.2.1 : Value).ownBlock ∧ some k_ ≠ (s_.2.2.2 : Value).ownBlock ∧ some k_ ≠ (.slice (some ad362) x4_1.length co19 : Value).ownBlock ∧ some k_ ≠ (.slice Ao28 x8_2.length co28 : Value).ownBlock ∧ k_ ≠ gb349 ∧ k_ ≠ gb360 ∧ k_ ≠ gb361) (.slice A362_0 (rd_L4 x4_1 x27_2).length c362_0) (rd_L4 x4_1 x27_2)) ∧ (Kd.R k37 37 w' w.heap.size (fun k_ => (w.heap.size ≤ k_) ∧ some k_ ≠ (s_.2.2.1 : Value).ownBlock ∧ some k_ ≠ (s_.2.2.2 : Value).ownBlock ∧ k_ ≠ gb360 ∧ k_ ≠ gb361) s_.2.1 y366) ∧ (Kd.R k37 37 w' w.heap.size (fun k_ => (w.heap.size ≤ k_) ∧ some k_ ≠ (s_.2.1 : Value).ownBlock ∧ some k_ ≠ (s_.2.2.2 : Value).ownBlock ∧ k_ ≠ gb360 ∧ k_ ≠ gb361) s_.2.2.1 y369) ∧ (Kd.R k37 37 w' w.heap.size (fun k_ => (w.heap.size ≤ k_) ∧ some k_ ≠ (s_.2.1 : Value).ownBlock ∧ some k_ ≠ (s_.2.2.1 : Value).ownBlock ∧ k_ ≠ gb360 ∧ k_ ≠ gb361) s_.2.2.2 y375) ∧ (Kd.S (Kd.slice 37 k37) 51 w' w.heap.size (fun k_ => (w.heap.size ≤ k_) ∧ some k_ ≠ (s_.2.1 : Value).ownBlock ∧ some k_ ≠ (s_.2.2.1 : Value).ownBlock ∧ some k_ ≠ (s_.2.2.2 : Value).ownBlock ∧ some k_ ≠ (.slice Ao28 x8_2.length co28 : Value).ownBlock ∧ k_ ≠ gb349 ∧ k_ ≠ gb360 ∧ k_ ≠ gb361) (.slice (some ad362) x4_1.length co19) x4_1) ∧ (Kd.S (Kd.slice 37 k37) 51 w' w.heap.size (fun k_ => (w.heap.size ≤ k_) ∧ some k_ ≠ (s_.2.1 : Value).ownBlock ∧ some k_ ≠ (s_.2.2.1 : Value).ownBlock ∧ some k_ ≠ (s_.2.2.2 : Value).ownBlock ∧ some k_ ≠ (.slice (some ad362) x4_1.length co19 : Value).ownBlock ∧ k_ ≠ gb349 ∧ k_ ≠ gb360 ∧ k_ ≠ gb361) (.slice Ao28 x8_2.length co28) x8_2) ∧ (w'.heap[gb360]? = some (.cells #[.int .i64 t355, .int .i64 t356] 37 (0, 0))) ∧ (w'.heap[gb361]? = some (.cells #[.int .i64 t357, .int .i64 t358] 37 (0, 0))) ∧ (IsS27 w w' gb349 t351 l0_1 l0_2) ∧ (Below w.heap.size w w')) ?_ ?_
               rotate_left
               ·
                intro hJ2_4_5_9
                refine join_ (σ := Value × Value × Value) 6 #[true, true, true, true, true, true, true, false, true, false, false, false, false, false] (fun s_ => [(33, s_.1), (35, s_.2.1), (36, s_.2.2)]) (fun s_ w' => (w'.cell? ⟨gb360, 0, none⟩ = some (.int .i64 t355) ∧ w'.cell? ⟨gb360, 1, none⟩ = some (.int .i64 t356) ∧ w'.cell? ⟨gb361, 0, none⟩ = some (.int .i64 t357) ∧ w'.cell? ⟨gb361, 1, none⟩ = some (.int .i64 t358)) ∧ (Kd.V k37 37 w' w.heap.size (fun k_ => (w.heap.size ≤ k_) ∧ some k_ ≠ (s_.2.1 : Value).ownBlock ∧ some k_ ≠ (s_.2.2 : Value).ownBlock ∧ some k_ ≠ (.slice (some ad362) x4_1.length co19 : Value).ownBlock ∧ some k_ ≠ (.slice Ao28 x8_2.length co28 : Value).ownBlock ∧ k_ ≠ gb349 ∧ k_ ≠ gb360 ∧ k_ ≠ gb361) (.slice A362_0 (rd_L4 x4_1 x27_2).length c362_0) (rd_L4 x4_1 x27_2)) ∧ (Kd.R k37 37 w' w.heap.size (fun k_ => (w.heap.size ≤ k_) ∧ some k_ ≠ (s_.2.2 : Value).ownBlock ∧ k_ ≠ gb360 ∧ k_ ≠ gb361) s_.2.1 y366) ∧ (Kd.R k37 37 w' w.heap.size (fun k_ => (w.heap.size ≤ k_) ∧ some k_ ≠ (s_.2.1 : Value).ownBlock ∧ k_ ≠ gb360 ∧ k_ ≠ gb361) s_.2.2 y369) ∧ (Kd.S (Kd.slice 37 k37) 51 w' w.heap.size (fun k_ => (w.heap.size ≤ k_) ∧ some k_ ≠ (s_.2.1 : Value).ownBlock ∧ some k_ ≠ (s_.2.2 : Value).ownBlock ∧ some k_ ≠ (.slice Ao28 x8_2.length co28 : Value).ownBlock ∧ k_ ≠ gb349 ∧ k_ ≠ gb360 ∧ k_ ≠ gb361) (.slice (some ad362) x4_1.length co19) x4_1) ∧ (Kd.S (Kd.slice 37 k37) 51 w' w.heap.size (fun k_ => (w.heap.size ≤ k_) ∧ some k_ ≠ (s_.2.1 : Value).ownBlock ∧ some k_ ≠ (s_.2.2 : Value).ownBlock ∧ some k_ ≠ (.slice (some ad362) x4_1.length co19 : Value).ownBlock ∧ k_ ≠ gb349 ∧ k_ ≠ gb360 ∧ k_ ≠ gb361) (.slice Ao28 x8_2.length co28) x8_2) ∧ (w'.heap[gb360]? = some (.cells #[.int .i64 t355, .int .i64 t356] 37 (0, 0))) ∧ (w'.heap[gb361]? = some (.cells #[.int .i64 t357, .int .i64 t358] 37 (0, 0))) ∧ (IsS27 w w' gb349 t351 l0_1 l0_2) ∧ (Below w.heap.size w w')) ?_ ?_
                rotate_left
                ·
                 intro hJ2_4_5
                 refine join_ (σ := Value × Value × Value) 6 #[true, true, true, true, true, false, true, false, true, true, false, false, false, false] (fun s_ => [(33, s_.1), (35, s_.2.1), (40, s_.2.2)]) (fun s_ w' => (w'.cell? ⟨gb360, 0, none⟩ = some (.int .i64 t355) ∧ w'.cell? ⟨gb360, 1, none⟩ = some (.int .i64 t356) ∧ w'.cell? ⟨gb361, 0, none⟩ = some (.int .i64 t357) ∧ w'.cell? ⟨gb361, 1, none⟩ = some (.int .i64 t358)) ∧ (Kd.V k37 37 w' w.heap.size (fun k_ => (w.heap.size ≤ k_) ∧ some k_ ≠ (s_.1 : Value).ownBlock ∧ some k_ ≠ (s_.2.1 : Value).ownBlock ∧ some k_ ≠ (s_.2.2 : Value).ownBlock ∧ some k_ ≠ (.slice (some ad362) x4_1.length co19 : Value).ownBlock ∧ some k_ ≠ (.slice Ao28 x8_2.length co28 : Value).ownBlock ∧ k_ ≠ gb349 ∧ k_ ≠ gb360 ∧ k_ ≠ gb361) (.slice A362_0 (rd_L4 x4_1 x27_2).length c362_0) (rd_L4 x4_1 x27_2)) ∧ (Kd.R k37 37 w' w.heap.size (fun k_ => (w.heap.size ≤ k_) ∧ some k_ ≠ (s_.2.1 : Value).ownBlock ∧ some k_ ≠ (s_.2.2 : Value).ownBlock ∧ k_ ≠ gb360 ∧ k_ ≠ gb361) s_.1 t363) ∧ (Kd.R k37 37 w' w.heap.size (fun k_ => (w.heap.size ≤ k_) ∧ some k_ ≠ (s_.1 : Value).ownBlock ∧ some k_ ≠ (s_.2.2 : Value).ownBlock ∧ k_ ≠ gb360 ∧ k_ ≠ gb361) s_.2.1 y366) ∧ (Kd.R k37 37 w' w.heap.size (fun k_ => (w.heap.size ≤ k_) ∧ some k_ ≠ (s_.1 : Value).ownBlock ∧ some k_ ≠ (s_.2.1 : Value).ownBlock ∧ k_ ≠ gb360 ∧ k_ ≠ gb361) s_.2.2 y375) ∧ (Kd.S (Kd.slice 37 k37) 51 w' w.heap.size (fun k_ => (w.heap.size ≤ k_) ∧ some k_ ≠ (s_.1 : Value).ownBlock ∧ some k_ ≠ (s_.2.1 : Value).ownBlock ∧ some k_ ≠ (s_.2.2 : Value).ownBlock ∧ some k_ ≠ (.slice Ao28 x8_2.length co28 : Value).ownBlock ∧ k_ ≠ gb349 ∧ k_ ≠ gb360 ∧ k_ ≠ gb361) (.slice (some ad362) x4_1.length co19) x4_1) ∧ (Kd.S (Kd.slice 37 k37) 51 w' w.heap.size (fun k_ => (w.heap.size ≤ k_) ∧ some k_ ≠ (s_.1 : Value).ownBlock ∧ some k_ ≠ (s_.2.1 : Value).ownBlock ∧ some k_ ≠ (s_.2.2 : Value).ownBlock ∧ some k_ ≠ (.slice (some ad362) x4_1.length co19 : Value).ownBlock ∧ k_ ≠ gb349 ∧ k_ ≠ gb360 ∧ k_ ≠ gb361) (.slice Ao28 x8_2.length co28) x8_2) ∧ (w'.heap[gb360]? = some (.cells #[.int .i64 t355, .int .i64 t356] 37 (0, 0))) ∧ (w'.heap[gb361]? = some (.cells #[.int .i64 t357, .int .i64 t358] 37 (0, 0))) ∧ (IsS27 w w' gb349 t351 l0_1 l0_2) ∧ (Below w.heap.size w w')) ?_ ?_
                 rotate_left
                 ·
                  intro hJ2_4_9
                  refine join_ (σ := Value × Value) 7 #[true, true, true, true, true, false, true, false, true, false, false, false, false, false] (fun s_ => [(33, s_.1), (35, s_.2)]) (fun s_ w' => (w'.cell? ⟨gb360, 0, none⟩ = some (.int .i64 t355) ∧ w'.cell? ⟨gb360, 1, none⟩ = some (.int .i64 t356) ∧ w'.cell? ⟨gb361, 0, none⟩ = some (.int .i64 t357) ∧ w'.cell? ⟨gb361, 1, none⟩ = some (.int .i64 t358)) ∧ (Kd.V k37 37 w' w.heap.size (fun k_ => (w.heap.size ≤ k_) ∧ some k_ ≠ (s_.1 : Value).ownBlock ∧ some k_ ≠ (s_.2 : Value).ownBlock ∧ some k_ ≠ (.slice (some ad362) x4_1.length co19 : Value).ownBlock ∧ some k_ ≠ (.slice Ao28 x8_2.length co28 : Value).ownBlock ∧ k_ ≠ gb349 ∧ k_ ≠ gb360 ∧ k_ ≠ gb361) (.slice A362_0 (rd_L4 x4_1 x27_2).length c362_0) (rd_L4 x4_1 x27_2)) ∧ (Kd.R k37 37 w' w.heap.size (fun k_ => (w.heap.size ≤ k_) ∧ some k_ ≠ (s_.2 : Value).ownBlock ∧ k_ ≠ gb360 ∧ k_ ≠ gb361) s_.1 t363) ∧ (Kd.R k37 37 w' w.heap.size (fun k_ => (w.heap.size ≤ k_) ∧ some k_ ≠ (s_.1 : Value).ownBlock ∧ k_ ≠ gb360 ∧ k_ ≠ gb361) s_.2 y366) ∧ (Kd.S (Kd.slice 37 k37) 51 w' w.heap.size (fun k_ => (w.heap.size ≤ k_) ∧ some k_ ≠ (s_.1 : Value).ownBlock ∧ some k_ ≠ (s_.2 : Value).ownBlock ∧ some k_ ≠ (.slice Ao28 x8_2.length co28 : Value).ownBlock ∧ k_ ≠ gb349 ∧ k_ ≠ gb360 ∧ k_ ≠ gb361) (.slice (some ad362) x4_1.length co19) x4_1) ∧ (Kd.S (Kd.slice 37 k37) 51 w' w.heap.size (fun k_ => (w.heap.size ≤ k_) ∧ some k_ ≠ (s_.1 : Value).ownBlock ∧ some k_ ≠ (s_.2 : Value).ownBlock ∧ some k_ ≠ (.slice (some ad362) x4_1.length co19 : Value).ownBlock ∧ k_ ≠ gb349 ∧ k_ ≠ gb360 ∧ k_ ≠ gb361) (.slice Ao28 x8_2.length co28) x8_2) ∧ (w'.heap[gb360]? = some (.cells #[.int .i64 t355, .int .i64 t356] 37 (0, 0))) ∧ (w'.heap[gb361]? = some (.cells #[.int .i64 t357, .int .i64 t358] 37 (0, 0))) ∧ (IsS27 w w' gb349 t351 l0_1 l0_2) ∧ (Below w.heap.size w w')) ?_ ?_
                  rotate_left
                  ·
                   intro hJ2_4
                   refine join_ (σ := Value × Value) 7 #[true, true, true, true, false, false, true, false, true, true, false, false, false, false] (fun s_ => [(33, s_.1), (40, s_.2)]) (fun s_ w' => (w'.cell? ⟨gb360, 0, none⟩ = some (.int .i64 t355) ∧ w'.cell? ⟨gb360, 1, none⟩ = some (.int .i64 t356) ∧ w'.cell? ⟨gb361, 0, none⟩ = some (.int .i64 t357) ∧ w'.cell? ⟨gb361, 1, none⟩ = some (.int .i64 t358)) ∧ (Kd.V k37 37 w' w.heap.size (fun k_ => (w.heap.size ≤ k_) ∧ some k_ ≠ (s_.1 : Value).ownBlock ∧ some k_ ≠ (s_.2 : Value).ownBlock ∧ some k_ ≠ (.slice (some ad362) x4_1.length co19 : Value).ownBlock ∧ some k_ ≠ (.slice Ao28 x8_2.length co28 : Value).ownBlock ∧ k_ ≠ gb349 ∧ k_ ≠ gb360 ∧ k_ ≠ gb361) (.slice A362_0 (rd_L4 x4_1 x27_2).length c362_0) (rd_L4 x4_1 x27_2)) ∧ (Kd.R k37 37 w' w.heap.size (fun k_ => (w.heap.size ≤ k_) ∧ some k_ ≠ (s_.2 : Value).ownBlock ∧ k_ ≠ gb360 ∧ k_ ≠ gb361) s_.1 t363) ∧ (Kd.R k37 37 w' w.heap.size (fun k_ => (w.heap.size ≤ k_) ∧ some k_ ≠ (s_.1 : Value).ownBlock ∧ k_ ≠ gb360 ∧ k_ ≠ gb361) s_.2 y375) ∧ (Kd.S (Kd.slice 37 k37) 51 w' w.heap.size (fun k_ => (w.heap.size ≤ k_) ∧ some k_ ≠ (s_.1 : Value).ownBlock ∧ some k_ ≠ (s_.2 : Value).ownBlock ∧ some k_ ≠ (.slice Ao28 x8_2.length co28 : Value).ownBlock ∧ k_ ≠ gb349 ∧ k_ ≠ gb360 ∧ k_ ≠ gb361) (.slice (some ad362) x4_1.length co19) x4_1) ∧ (Kd.S (Kd.slice 37 k37) 51 w' w.heap.size (fun k_ => (w.heap.size ≤ k_) ∧ some k_ ≠ (s_.1 : Value).ownBlock ∧ some k_ ≠ (s_.2 : Value).ownBlock ∧ some k_ ≠ (.slice (some ad362) x4_1.length co19 : Value).ownBlock ∧ k_ ≠ gb349 ∧ k_ ≠ gb360 ∧ k_ ≠ gb361) (.slice Ao28 x8_2.length co28) x8_2) ∧ (w'.heap[gb360]? = some (.cells #[.int .i64 t355, .int .i64 t356] 37 (0, 0))) ∧ (w'.heap[gb361]? = some (.cells #[.int .i64 t357, .int .i64 t358] 37 (0, 0))) ∧ (IsS27 w w' gb349 t351 l0_1 l0_2) ∧ (Below w.heap.size w w')) ?_ ?_
                   rotate_left
                   ·
                    intro hJ2_9
                    refine join_ (σ := Value × Value) 7 #[true, true, false, true, true, false, true, false, true, true, false, false, false, false] (fun s_ => [(35, s_.1), (40, s_.2)]) (fun s_ w' => (w'.cell? ⟨gb360, 0, none⟩ = some (.int .i64 t355) ∧ w'.cell? ⟨gb360, 1, none⟩ = some (.int .i64 t356) ∧ w'.cell? ⟨gb361, 0, none⟩ = some (.int .i64 t357) ∧ w'.cell? ⟨gb361, 1, none⟩ = some (.int .i64 t358)) ∧ (Kd.V k37 37 w' w.heap.size (fun k_ => (w.heap.size ≤ k_) ∧ some k_ ≠ (s_.1 : Value).ownBlock ∧ some k_ ≠ (s_.2 : Value).ownBlock ∧ some k_ ≠ (.slice (some ad362) x4_1.length co19 : Value).ownBlock ∧ some k_ ≠ (.slice Ao28 x8_2.length co28 : Value).ownBlock ∧ k_ ≠ gb349 ∧ k_ ≠ gb360 ∧ k_ ≠ gb361) (.slice A362_0 (rd_L4 x4_1 x27_2).length c362_0) (rd_L4 x4_1 x27_2)) ∧ (Kd.R k37 37 w' w.heap.size (fun k_ => (w.heap.size ≤ k_) ∧ some k_ ≠ (s_.2 : Value).ownBlock ∧ k_ ≠ gb360 ∧ k_ ≠ gb361) s_.1 y366) ∧ (Kd.R k37 37 w' w.heap.size (fun k_ => (w.heap.size ≤ k_) ∧ some k_ ≠ (s_.1 : Value).ownBlock ∧ k_ ≠ gb360 ∧ k_ ≠ gb361) s_.2 y375) ∧ (Kd.S (Kd.slice 37 k37) 51 w' w.heap.size (fun k_ => (w.heap.size ≤ k_) ∧ some k_ ≠ (s_.1 : Value).ownBlock ∧ some k_ ≠ (s_.2 : Value).ownBlock ∧ some k_ ≠ (.slice Ao28 x8_2.length co28 : Value).ownBlock ∧ k_ ≠ gb349 ∧ k_ ≠ gb360 ∧ k_ ≠ gb361) (.slice (some ad362) x4_1.length co19) x4_1) ∧ (Kd.S (Kd.slice 37 k37) 51 w' w.heap.size (fun k_ => (w.heap.size ≤ k_) ∧ some k_ ≠ (s_.1 : Value).ownBlock ∧ some k_ ≠ (s_.2 : Value).ownBlock ∧ some k_ ≠ (.slice (some ad362) x4_1.length co19 : Value).ownBlock ∧ k_ ≠ gb349 ∧ k_ ≠ gb360 ∧ k_ ≠ gb361) (.slice Ao28 x8_2.length co28) x8_2) ∧ (w'.heap[gb360]? = some (.cells #[.int .i64 t355, .int .i64 t356] 37 (0, 0))) ∧ (w'.heap[gb361]? = some (.cells #[.int .i64 t357, .int .i64 t358] 37 (0, 0))) ∧ (IsS27 w w' gb349 t351 l0_1 l0_2) ∧ (Below w.heap.size w w')) ?_ ?_
                    rotate_left
                    ·
                     intro hJ4_9
                     refine join_ (σ := Value) 8 #[true, true, true, true, false, false, true, false, true, false, false, false, false, false] (fun s_ => [(33, s_)]) (fun s_ w' => (w'.cell? ⟨gb360, 0, none⟩ = some (.int .i64 t355) ∧ w'.cell? ⟨gb360, 1, none⟩ = some (.int .i64 t356) ∧ w'.cell? ⟨gb361, 0, none⟩ = some (.int .i64 t357) ∧ w'.cell? ⟨gb361, 1, none⟩ = some (.int .i64 t358)) ∧ (Kd.V k37 37 w' w.heap.size (fun k_ => (w.heap.size ≤ k_) ∧ some k_ ≠ (s_ : Value).ownBlock ∧ some k_ ≠ (.slice (some ad362) x4_1.length co19 : Value).ownBlock ∧ some k_ ≠ (.slice Ao28 x8_2.length co28 : Value).ownBlock ∧ k_ ≠ gb349 ∧ k_ ≠ gb360 ∧ k_ ≠ gb361) (.slice A362_0 (rd_L4 x4_1 x27_2).length c362_0) (rd_L4 x4_1 x27_2)) ∧ (Kd.R k37 37 w' w.heap.size (fun k_ => (w.heap.size ≤ k_) ∧ k_ ≠ gb360 ∧ k_ ≠ gb361) s_ t363) ∧ (Kd.S (Kd.slice 37 k37) 51 w' w.heap.size (fun k_ => (w.heap.size ≤ k_) ∧ some k_ ≠ (s_ : Value).ownBlock ∧ some k_ ≠ (.slice Ao28 x8_2.length co28 : Value).ownBlock ∧ k_ ≠ gb349 ∧ k_ ≠ gb360 ∧ k_ ≠ gb361) (.slice (some ad362) x4_1.length co19) x4_1) ∧ (Kd.S (Kd.slice 37 k37) 51 w' w.heap.size (fun k_ => (w.heap.size ≤ k_) ∧ some k_ ≠ (s_ : Value).ownBlock ∧ some k_ ≠ (.slice (some ad362) x4_1.length co19 : Value).ownBlock ∧ k_ ≠ gb349 ∧ k_ ≠ gb360 ∧ k_ ≠ gb361) (.slice Ao28 x8_2.length co28) x8_2) ∧ (w'.heap[gb360]? = some (.cells #[.int .i64 t355, .int .i64 t356] 37 (0, 0))) ∧ (w'.heap[gb361]? = some (.cells #[.int .i64 t357, .int .i64 t358] 37 (0, 0))) ∧ (IsS27 w w' gb349 t351 l0_1 l0_2) ∧ (Below w.heap.size w w')) ?_ ?_
                     rotate_left
                     ·
                      intro hJ2
                      refine join_ (σ := Value) 8 #[true, true, false, true, true, false, true, false, true, false, false, false, false, false] (fun s_ => [(35, s_)]) (fun s_ w' => (w'.cell? ⟨gb360, 0, none⟩ = some (.int .i64 t355) ∧ w'.cell? ⟨gb360, 1, none⟩ = some (.int .i64 t356) ∧ w'.cell? ⟨gb361, 0, none⟩ = some (.int .i64 t357) ∧ w'.cell? ⟨gb361, 1, none⟩ = some (.int .i64 t358)) ∧ (Kd.V k37 37 w' w.heap.size (fun k_ => (w.heap.size ≤ k_) ∧ some k_ ≠ (s_ : Value).ownBlock ∧ some k_ ≠ (.slice (some ad362) x4_1.length co19 : Value).ownBlock ∧ some k_ ≠ (.slice Ao28 x8_2.length co28 : Value).ownBlock ∧ k_ ≠ gb349 ∧ k_ ≠ gb360 ∧ k_ ≠ gb361) (.slice A362_0 (rd_L4 x4_1 x27_2).length c362_0) (rd_L4 x4_1 x27_2)) ∧ (Kd.R k37 37 w' w.heap.size (fun k_ => (w.heap.size ≤ k_) ∧ k_ ≠ gb360 ∧ k_ ≠ gb361) s_ y366) ∧ (Kd.S (Kd.slice 37 k37) 51 w' w.heap.size (fun k_ => (w.heap.size ≤ k_) ∧ some k_ ≠ (s_ : Value).ownBlock ∧ some k_ ≠ (.slice Ao28 x8_2.length co28 : Value).ownBlock ∧ k_ ≠ gb349 ∧ k_ ≠ gb360 ∧ k_ ≠ gb361) (.slice (some ad362) x4_1.length co19) x4_1) ∧ (Kd.S (Kd.slice 37 k37) 51 w' w.heap.size (fun k_ => (w.heap.size ≤ k_) ∧ some k_ ≠ (s_ : Value).ownBlock ∧ some k_ ≠ (.slice (some ad362) x4_1.length co19 : Value).ownBlock ∧ k_ ≠ gb349 ∧ k_ ≠ gb360 ∧ k_ ≠ gb361) (.slice Ao28 x8_2.length co28) x8_2) ∧ (w'.heap[gb360]? = some (.cells #[.int .i64 t355, .int .i64 t356] 37 (0, 0))) ∧ (w'.heap[gb361]? = some (.cells #[.int .i64 t357, .int .i64 t358] 37 (0, 0))) ∧ (IsS27 w w' gb349 t351 l0_1 l0_2) ∧ (Below w.heap.size w w')) ?_ ?_
                      rotate_left
                      ·
                       intro hJ4
                       refine join_ (σ := Value) 8 #[true, true, false, true, false, false, true, false, true, true, false, false, false, false] (fun s_ => [(40, s_)]) (fun s_ w' => (w'.cell? ⟨gb360, 0, none⟩ = some (.int .i64 t355) ∧ w'.cell? ⟨gb360, 1, none⟩ = some (.int .i64 t356) ∧ w'.cell? ⟨gb361, 0, none⟩ = some (.int .i64 t357) ∧ w'.cell? ⟨gb361, 1, none⟩ = some (.int .i64 t358)) ∧ (Kd.V k37 37 w' w.heap.size (fun k_ => (w.heap.size ≤ k_) ∧ some k_ ≠ (s_ : Value).ownBlock ∧ some k_ ≠ (.slice (some ad362) x4_1.length co19 : Value).ownBlock ∧ some k_ ≠ (.slice Ao28 x8_2.length co28 : Value).ownBlock ∧ k_ ≠ gb349 ∧ k_ ≠ gb360 ∧ k_ ≠ gb361) (.slice A362_0 (rd_L4 x4_1 x27_2).length c362_0) (rd_L4 x4_1 x27_2)) ∧ (Kd.R k37 37 w' w.heap.size (fun k_ => (w.heap.size ≤ k_) ∧ k_ ≠ gb360 ∧ k_ ≠ gb361) s_ y375) ∧ (Kd.S (Kd.slice 37 k37) 51 w' w.heap.size (fun k_ => (w.heap.size ≤ k_) ∧ some k_ ≠ (s_ : Value).ownBlock ∧ some k_ ≠ (.slice Ao28 x8_2.length co28 : Value).ownBlock ∧ k_ ≠ gb349 ∧ k_ ≠ gb360 ∧ k_ ≠ gb361) (.slice (some ad362) x4_1.length co19) x4_1) ∧ (Kd.S (Kd.slice 37 k37) 51 w' w.heap.size (fun k_ => (w.heap.size ≤ k_) ∧ some k_ ≠ (s_ : Value).ownBlock ∧ some k_ ≠ (.slice (some ad362) x4_1.length co19 : Value).ownBlock ∧ k_ ≠ gb349 ∧ k_ ≠ gb360 ∧ k_ ≠ gb361) (.slice Ao28 x8_2.length co28) x8_2) ∧ (w'.heap[gb360]? = some (.cells #[.int .i64 t355, .int .i64 t356] 37 (0, 0))) ∧ (w'.heap[gb361]? = some (.cells #[.int .i64 t357, .int .i64 t358] 37 (0, 0))) ∧ (IsS27 w w' gb349 t351 l0_1 l0_2) ∧ (Below w.heap.size w w')) ?_ ?_
                       rotate_left
                       ·
                        intro hJ9
                        refine three_ (i := 2) (j := 4) (k := 9) (Ni := some 33) (Nj := some 35) (Nk := some 40) #[true, true, true, true, false, false, true, false, true, false, false, false, false, false] #[true, true, false, true, true, false, true, false, true, false, false, false, false, false] #[true, true, false, true, false, false, true, false, true, true, false, false, false, false] rfl rfl rfl rfl rfl rfl (three_of HT_.out (by kernel_rfl)) (by decide) (by decide) (by decide) (fun K hK => ?_) (fun K hK => ?_) (fun K hK => ?_)
                        ·
                         refine goes_ Try.func86 (by kernel_rfl) rfl #[.slice A362_0 (rd_L4 x4_1 x27_2).length c362_0] (by rfl) rfl rfl zq6 ?_
                         with_reducible refine (impl_Dyadic.calls _ _ (rd_L4 x4_1 x27_2) t363 _ ?side1 ?side2 A23.out).mono ?_
                         (case side1 => repeat (first | exact (by repeat (first | (with_reducible exact HR362_0.out) | (with_reducible refine Kd.C_alloc ?_ _) | (with_reducible refine Kd.C_drewN ?_ _) | (with_reducible refine Kd.C_drew ?_) | exact HR362_0.out)) | (with_reducible refine Kd.C_alloc ?_ _) | (with_reducible refine Kd.C_drewN ?_ _) | (with_reducible refine Kd.C_drew ?_)))
                         (case side2 => exact HC362_0.out)
                         rintro e w30 ⟨v364, rfl, ho0, hb⟩
                         refine ⟨_, rfl, ?_⟩
                         have HO365 := Aside0.mk (Kd.R_lower (Kd.R_newB (Kd.R_newB (Kd.R_newM (M := fun k_ => (w.heap.size ≤ k_)) ho0 (below_size (z44_3 HB)) (fun k_ h_ => h_)) (g := gb360) (o := .cells #[.int .i64 t355, .int .i64 t356] 37 (0, 0)) (zq1 BK360)) (g := gb361) (o := .cells #[.int .i64 t357, .int .i64 t358] 37 (0, 0)) (zq1 BK361)) (below_size (z44_3 HB)))
                         replace HO_8 := Aside0.mk (Kd.S_elder' (by (with_reducible repeat (first | apply Kd.S_alloc | apply Kd.S_drewN | apply Kd.S_drew)); exact HO_8.out) (Kd.R_base ho0) hb); replace HO_25 := Aside0.mk (Kd.S_elder' (by (with_reducible repeat (first | apply Kd.S_alloc | apply Kd.S_drewN | apply Kd.S_drew)); exact HO_25.out) (Kd.R_base ho0) hb); replace HL362_0 := Aside0.mk (Kd.V_elder' (by (with_reducible repeat (first | apply Kd.V_alloc | apply Kd.V_drewN | apply Kd.V_drew)); exact HL362_0.out) (Kd.R_base ho0) hb); replace BK360 := Aside0.mk (zbb BK360 hb); replace BK361 := Aside0.mk (zbb BK361 hb); replace HI349 := Aside0.mk (IsS27.below (z44_2 HI349) hb); replace HR362_0 := Aside0.mk (Kd.C_below (by repeat (first | (with_reducible exact HR362_0.out) | (with_reducible refine Kd.C_alloc ?_ _) | (with_reducible refine Kd.C_drewN ?_ _) | (with_reducible refine Kd.C_drew ?_) | exact HR362_0.out)) hb); replace HB := Aside0.mk (below_step (z44_3 HB) hb)
                         (try clear hb)
                         (try clear hb2)
                         (try clear hk)
                         (try clear hi)
                         (try clear ho0)
                         refine hK.out _ _ ⟨zc BK360 0, zc BK360 1, zc BK361 0, zc BK361 1⟩ (fun hHeld => ?_)
                         clear hK K
                         refine norm_ (a' := ?_) ?_ ?_
                         rotate_left
                         ·
                          show Act.put _ (some 33) _ = _
                          simp only [Act.put, List.setIfInBounds_toArray, List.set_cons_zero, List.set_cons_succ, i64_w, i32_w]; rfl
                         exact norm_ zq4 (hJ2 (_) _ ⟨hHeld, (by (with_reducible repeat (first | apply Kd.V_alloc | apply Kd.V_drewN | apply Kd.V_drew)); exact Kd.V_mono HL362_0.out (fun _ hk => ⟨hk.1.1.1, ⟨hk.2, ⟨hk.1.2, ⟨hk.1.1.2.1, ⟨hk.1.1.2.2.2.2, ⟨hk.1.1.2.2.1, hk.1.1.2.2.2.1⟩⟩⟩⟩⟩⟩)), (by (with_reducible repeat (first | apply Kd.R_alloc | apply Kd.R_drewN | apply Kd.R_drew)); exact Kd.R_mono HO365.out (fun _ hk => ⟨hk.1.1.1, ⟨hk.1.2, hk.2⟩⟩)), (by (with_reducible repeat (first | apply Kd.S_alloc | apply Kd.S_drewN | apply Kd.S_drew)); exact Kd.S_mono HO_25.out (fun _ hk => ⟨hk.1.1, ⟨hk.2, ⟨hk.1.2.1, ⟨hk.1.2.2.2.2, ⟨hk.1.2.2.1, hk.1.2.2.2.1⟩⟩⟩⟩⟩)), (by (with_reducible repeat (first | apply Kd.S_alloc | apply Kd.S_drewN | apply Kd.S_drew)); exact Kd.S_mono HO_8.out (fun _ hk => ⟨hk.1.1, ⟨hk.2, ⟨hk.1.2.1, ⟨hk.1.2.2.2.2, ⟨hk.1.2.2.1, hk.1.2.2.2.1⟩⟩⟩⟩⟩)), (zq1 BK360), (zq1 BK361), (z44_2 HI349), (z44_3 HB)⟩)
                        ·
                         refine Kd.R_lit_step k37 _ 37 ?hg (N := 35) ?hd (xs := ([(⟨t355, t356⟩ : S37)] : List (S37))) (inner := [.int .i64 t355, .int .i64 t356]) (ok := fun _ => True) (okp := fun _ => True) ?hr ?hp (fun _ hk => hk) trivial (Below.refl _ _) (Nat.le_refl _) (by simp) ?_; (case hd => rfl); (case hg => rfl); (case hr => first | (go_simp; done) | (go_simp; rfl)); (case hp => exact (Reps.c2 (show Kd.M k37 _ _ _ (⟨t355, t356⟩ : S37) [.int .i64 t355, .int .i64 t356] from (k37_mkM _ _ _ (⟨t355, t356⟩ : S37) )) (Reps.none _ _)))
                         intro v367 w30 ho31 hb hg_ hnew_
                         clear hg_ hnew_
                         (first | rw [← Ny366.out] at ho31 | (simp only [Int.reduceToNat] at ho31; rw [← Ny366.out] at ho31))
                         have n0_ := Aside0.mk (Kd.S_elder' (by (with_reducible repeat (first | apply Kd.S_alloc | apply Kd.S_drewN | apply Kd.S_drew)); exact HO_8.out) (Kd.R_base ho31) hb)
                         have n1_ := Aside0.mk (Kd.S_elder' (by (with_reducible repeat (first | apply Kd.S_alloc | apply Kd.S_drewN | apply Kd.S_drew)); exact HO_25.out) (Kd.R_base ho31) hb)
                         have n2_ := Aside0.mk (Kd.V_elder' (by (with_reducible repeat (first | apply Kd.V_alloc | apply Kd.V_drewN | apply Kd.V_drew)); exact HL362_0.out) (Kd.R_base ho31) hb)
                         have HO368 := Aside0.mk (Kd.R_lower (Kd.R_newB (Kd.R_newB (Kd.R_newM (M := fun k_ => (w.heap.size ≤ k_)) ho31 (below_size (z44_3 HB)) (fun k_ h_ => h_)) (g := gb360) (o := .cells #[.int .i64 t355, .int .i64 t356] 37 (0, 0)) (zq1 BK360)) (g := gb361) (o := .cells #[.int .i64 t357, .int .i64 t358] 37 (0, 0)) (zq1 BK361)) (below_size (z44_3 HB)))
                         have n4_ := Aside0.mk (zbb BK360 hb)
                         have n5_ := Aside0.mk (zbb BK361 hb)
                         have n6_ := Aside0.mk (IsS27.below (z44_2 HI349) hb)
                         have n7_ := Aside0.mk (Kd.C_below (by repeat (first | (with_reducible exact HR362_0.out) | (with_reducible refine Kd.C_alloc ?_ _) | (with_reducible refine Kd.C_drewN ?_ _) | (with_reducible refine Kd.C_drew ?_) | exact HR362_0.out)) hb)
                         have n8_ := Aside0.mk (below_step (z44_3 HB) hb)
                         clear HO_8 HO_25 HL362_0 BK360 BK361 HI349 HR362_0 HB
                         have HO_8 := n0_; have HO_25 := n1_; have HL362_0 := n2_; have BK360 := n4_; have BK361 := n5_; have HI349 := n6_; have HR362_0 := n7_; have HB := n8_
                         clear n0_ n1_ n2_ n4_ n5_ n6_ n7_ n8_ hb ho31
                         refine hK.out _ _ ⟨zc BK360 0, zc BK360 1, zc BK361 0, zc BK361 1⟩ (fun hHeld => ?_)
                         clear hK K
                         refine norm_ (a' := ?_) ?_ ?_
                         rotate_left
                         ·
                          show Act.put _ (some 35) _ = _
                          simp only [Act.put, List.setIfInBounds_toArray, List.set_cons_zero, List.set_cons_succ, i64_w, i32_w]; rfl
                         exact norm_ zq4 (hJ4 (_) _ ⟨hHeld, (by (with_reducible repeat (first | apply Kd.V_alloc | apply Kd.V_drewN | apply Kd.V_drew)); exact Kd.V_mono HL362_0.out (fun _ hk => ⟨hk.1.1.1, ⟨hk.2, ⟨hk.1.2, ⟨hk.1.1.2.1, ⟨hk.1.1.2.2.2.2, ⟨hk.1.1.2.2.1, hk.1.1.2.2.2.1⟩⟩⟩⟩⟩⟩)), (by (with_reducible repeat (first | apply Kd.R_alloc | apply Kd.R_drewN | apply Kd.R_drew)); exact Kd.R_mono HO368.out (fun _ hk => ⟨hk.1.1.1, ⟨hk.1.2, hk.2⟩⟩)), (by (with_reducible repeat (first | apply Kd.S_alloc | apply Kd.S_drewN | apply Kd.S_drew)); exact Kd.S_mono HO_25.out (fun _ hk => ⟨hk.1.1, ⟨hk.2, ⟨hk.1.2.1, ⟨hk.1.2.2.2.2, ⟨hk.1.2.2.1, hk.1.2.2.2.1⟩⟩⟩⟩⟩)), (by (with_reducible repeat (first | apply Kd.S_alloc | apply Kd.S_drewN | apply Kd.S_drew)); exact Kd.S_mono HO_8.out (fun _ hk => ⟨hk.1.1, ⟨hk.2, ⟨hk.1.2.1, ⟨hk.1.2.2.2.2, ⟨hk.1.2.2.1, hk.1.2.2.2.1⟩⟩⟩⟩⟩)), (zq1 BK360), (zq1 BK361), (z44_2 HI349), (z44_3 HB)⟩)
                        ·
                         refine Kd.R_lit_step k37 _ 37 ?hg (N := 40) ?hd (xs := ([(⟨t357, t358⟩ : S37)] : List (S37))) (inner := [.int .i64 t357, .int .i64 t358]) (ok := fun _ => True) (okp := fun _ => True) ?hr ?hp (fun _ hk => hk) trivial (Below.refl _ _) (Nat.le_refl _) (by simp) ?_; (case hd => rfl); (case hg => rfl); (case hr => first | (go_simp; done) | (go_simp; rfl)); (case hp => exact (Reps.c2 (show Kd.M k37 _ _ _ (⟨t357, t358⟩ : S37) [.int .i64 t357, .int .i64 t358] from (k37_mkM _ _ _ (⟨t357, t358⟩ : S37) )) (Reps.none _ _)))
                         intro v376 w30 ho31 hb hg_ hnew_
                         clear hg_ hnew_
                         (first | rw [← Ny375.out] at ho31 | (simp only [Int.reduceToNat] at ho31; rw [← Ny375.out] at ho31))
                         have n0_ := Aside0.mk (Kd.S_elder' (by (with_reducible repeat (first | apply Kd.S_alloc | apply Kd.S_drewN | apply Kd.S_drew)); exact HO_8.out) (Kd.R_base ho31) hb)
                         have n1_ := Aside0.mk (Kd.S_elder' (by (with_reducible repeat (first | apply Kd.S_alloc | apply Kd.S_drewN | apply Kd.S_drew)); exact HO_25.out) (Kd.R_base ho31) hb)
                         have n2_ := Aside0.mk (Kd.V_elder' (by (with_reducible repeat (first | apply Kd.V_alloc | apply Kd.V_drewN | apply Kd.V_drew)); exact HL362_0.out) (Kd.R_base ho31) hb)
                         have HO377 := Aside0.mk (Kd.R_lower (Kd.R_newB (Kd.R_newB (Kd.R_newM (M := fun k_ => (w.heap.size ≤ k_)) ho31 (below_size (z44_3 HB)) (fun k_ h_ => h_)) (g := gb360) (o := .cells #[.int .i64 t355, .int .i64 t356] 37 (0, 0)) (zq1 BK360)) (g := gb361) (o := .cells #[.int .i64 t357, .int .i64 t358] 37 (0, 0)) (zq1 BK361)) (below_size (z44_3 HB)))
                         have n4_ := Aside0.mk (zbb BK360 hb)
                         have n5_ := Aside0.mk (zbb BK361 hb)
                         have n6_ := Aside0.mk (IsS27.below (z44_2 HI349) hb)
                         have n7_ := Aside0.mk (Kd.C_below (by repeat (first | (with_reducible exact HR362_0.out) | (with_reducible refine Kd.C_alloc ?_ _) | (with_reducible refine Kd.C_drewN ?_ _) | (with_reducible refine Kd.C_drew ?_) | exact HR362_0.out)) hb)
                         have n8_ := Aside0.mk (below_step (z44_3 HB) hb)
                         clear HO_8 HO_25 HL362_0 BK360 BK361 HI349 HR362_0 HB
                         have HO_8 := n0_; have HO_25 := n1_; have HL362_0 := n2_; have BK360 := n4_; have BK361 := n5_; have HI349 := n6_; have HR362_0 := n7_; have HB := n8_
                         clear n0_ n1_ n2_ n4_ n5_ n6_ n7_ n8_ hb ho31
                         refine hK.out _ _ ⟨zc BK360 0, zc BK360 1, zc BK361 0, zc BK361 1⟩ (fun hHeld => ?_)
                         clear hK K
                         refine norm_ (a' := ?_) ?_ ?_
                         rotate_left
                         ·
                          show Act.put _ (some 40) _ = _
                          simp only [Act.put, List.setIfInBounds_toArray, List.set_cons_zero, List.set_cons_succ, i64_w, i32_w]; rfl
                         exact norm_ zq4 (hJ9 (_) _ ⟨hHeld, (by (with_reducible repeat (first | apply Kd.V_alloc | apply Kd.V_drewN | apply Kd.V_drew)); exact Kd.V_mono HL362_0.out (fun _ hk => ⟨hk.1.1.1, ⟨hk.2, ⟨hk.1.2, ⟨hk.1.1.2.1, ⟨hk.1.1.2.2.2.2, ⟨hk.1.1.2.2.1, hk.1.1.2.2.2.1⟩⟩⟩⟩⟩⟩)), (by (with_reducible repeat (first | apply Kd.R_alloc | apply Kd.R_drewN | apply Kd.R_drew)); exact Kd.R_mono HO377.out (fun _ hk => ⟨hk.1.1.1, ⟨hk.1.2, hk.2⟩⟩)), (by (with_reducible repeat (first | apply Kd.S_alloc | apply Kd.S_drewN | apply Kd.S_drew)); exact Kd.S_mono HO_25.out (fun _ hk => ⟨hk.1.1, ⟨hk.2, ⟨hk.1.2.1, ⟨hk.1.2.2.2.2, ⟨hk.1.2.2.1, hk.1.2.2.2.1⟩⟩⟩⟩⟩)), (by (with_reducible repeat (first | apply Kd.S_alloc | apply Kd.S_drewN | apply Kd.S_drew)); exact Kd.S_mono HO_8.out (fun _ hk => ⟨hk.1.1, ⟨hk.2, ⟨hk.1.2.1, ⟨hk.1.2.2.2.2, ⟨hk.1.2.2.1, hk.1.2.2.2.1⟩⟩⟩⟩⟩)), (zq1 BK360), (zq1 BK361), (z44_2 HI349), (z44_3 HB)⟩)
                       ·
                        rintro v376 w32 ⟨hS_, h0_, h1_, h2_, h3_, h4_, h5_, h6_, h7_⟩
                        have HO377 : Aside0 (Kd.R k37 37 w32 w.heap.size (fun k_ => (w.heap.size ≤ k_) ∧ k_ ≠ gb360 ∧ k_ ≠ gb361) v376 y375) := ⟨h1_⟩
                        replace HL362_0 : Aside0 (Kd.V k37 37 w32 w.heap.size (fun k_ => (w.heap.size ≤ k_) ∧ some k_ ≠ (v376 : Value).ownBlock ∧ some k_ ≠ (.slice (some ad362) x4_1.length co19 : Value).ownBlock ∧ some k_ ≠ (.slice Ao28 x8_2.length co28 : Value).ownBlock ∧ k_ ≠ gb349 ∧ k_ ≠ gb360 ∧ k_ ≠ gb361) (.slice A362_0 (rd_L4 x4_1 x27_2).length c362_0) (rd_L4 x4_1 x27_2)) := ⟨h0_⟩; replace HO_25 : Aside0 (Kd.S (Kd.slice 37 k37) 51 w32 w.heap.size (fun k_ => (w.heap.size ≤ k_) ∧ some k_ ≠ (v376 : Value).ownBlock ∧ some k_ ≠ (.slice Ao28 x8_2.length co28 : Value).ownBlock ∧ k_ ≠ gb349 ∧ k_ ≠ gb360 ∧ k_ ≠ gb361) (.slice (some ad362) x4_1.length co19) x4_1) := ⟨h2_⟩; replace HO_8 : Aside0 (Kd.S (Kd.slice 37 k37) 51 w32 w.heap.size (fun k_ => (w.heap.size ≤ k_) ∧ some k_ ≠ (v376 : Value).ownBlock ∧ some k_ ≠ (.slice (some ad362) x4_1.length co19 : Value).ownBlock ∧ k_ ≠ gb349 ∧ k_ ≠ gb360 ∧ k_ ≠ gb361) (.slice Ao28 x8_2.length co28) x8_2) := ⟨h3_⟩; replace BK360 : Aside0 (w32.heap[gb360]? = some (.cells #[.int .i64 t355, .int .i64 t356] 37 (0, 0))) := ⟨h4_⟩; replace BK361 : Aside0 (w32.heap[gb361]? = some (.cells #[.int .i64 t357, .int .i64 t358] 37 (0, 0))) := ⟨h5_⟩; replace HI349 : Aside0 (IsS27 w w32 gb349 t351 l0_1 l0_2) := ⟨h6_⟩; replace HB : Aside0 (Below w.heap.size w w32) := ⟨h7_⟩
                        clear HR362_0 h0_ h1_ h2_ h3_ h4_ h5_ h6_ h7_
                        have hHeld : w32.cell? ⟨gb360, 0, none⟩ = some (.int .i64 t355) ∧ w32.cell? ⟨gb360, 1, none⟩ = some (.int .i64 t356) ∧ w32.cell? ⟨gb361, 0, none⟩ = some (.int .i64 t357) ∧ w32.cell? ⟨gb361, 1, none⟩ = some (.int .i64 t358) := hS_
                        refine norm_ (a' := ?_) ?_ ?_
                        rotate_left
                        ·
                         simp only [putAll, Act.put, List.setIfInBounds_toArray, List.set_cons_zero, List.set_cons_succ]
                         rfl
                        refine two_ (i := 2) (j := 4) (Ni := some 33) (Nj := some 35) #[true, true, true, true, false, false, true, false, true, true, false, false, false, false] #[true, true, false, true, true, false, true, false, true, true, false, false, false, false] rfl rfl rfl rfl (two_of HT_.out (by kernel_rfl)) (by decide) (by decide) (fun K hK => ?_) (fun K hK => ?_)
                        ·
                         refine goes_ Try.func86 (by kernel_rfl) rfl #[.slice A362_0 (rd_L4 x4_1 x27_2).length c362_0] (by rfl) rfl rfl zq6 ?_
                         with_reducible refine (impl_Dyadic.calls _ _ (rd_L4 x4_1 x27_2) t363 _ ?side1 ?side2 A23.out).mono ?_
                         (case side1 => repeat (first | exact ((Kd.V_reads' (by (with_reducible repeat (first | apply Kd.V_alloc | apply Kd.V_drewN | apply Kd.V_drew)); exact HL362_0.out)).2.2) | (with_reducible refine Kd.C_alloc ?_ _) | (with_reducible refine Kd.C_drewN ?_ _) | (with_reducible refine Kd.C_drew ?_)))
                         (case side2 => exact HC362_0.out)
                         rintro e w33 ⟨v364, rfl, ho0, hb⟩
                         refine ⟨_, rfl, ?_⟩
                         have HO365 := Aside0.mk (Kd.R_lower (Kd.R_newB (Kd.R_newB (Kd.R_new' (Kd.R_newM (M := fun k_ => (w.heap.size ≤ k_)) ho0 (below_size (z44_3 HB)) (fun k_ h_ => h_)) (Kd.R_lt (zq3 HO377))) (g := gb360) (o := .cells #[.int .i64 t355, .int .i64 t356] 37 (0, 0)) (zq1 BK360)) (g := gb361) (o := .cells #[.int .i64 t357, .int .i64 t358] 37 (0, 0)) (zq1 BK361)) (below_size (z44_3 HB)))
                         replace HO_8 := Aside0.mk (Kd.S_elder' (by (with_reducible repeat (first | apply Kd.S_alloc | apply Kd.S_drewN | apply Kd.S_drew)); exact HO_8.out) (Kd.R_base ho0) hb); replace HO_25 := Aside0.mk (Kd.S_elder' (by (with_reducible repeat (first | apply Kd.S_alloc | apply Kd.S_drewN | apply Kd.S_drew)); exact HO_25.out) (Kd.R_base ho0) hb); replace HL362_0 := Aside0.mk (Kd.V_elder' (by (with_reducible repeat (first | apply Kd.V_alloc | apply Kd.V_drewN | apply Kd.V_drew)); exact HL362_0.out) (Kd.R_base ho0) hb); replace HO377 := Aside0.mk (Kd.R_elder' (zq3 HO377) (Kd.R_base ho0) hb); replace BK360 := Aside0.mk (zbb BK360 hb); replace BK361 := Aside0.mk (zbb BK361 hb); replace HI349 := Aside0.mk (IsS27.below (z44_2 HI349) hb); replace HB := Aside0.mk (below_step (z44_3 HB) hb)
                         (try clear hb)
                         (try clear hb2)
                         (try clear hk)
                         (try clear hi)
                         (try clear ho0)
                         refine hK.out _ _ ⟨zc BK360 0, zc BK360 1, zc BK361 0, zc BK361 1⟩ (fun hHeld => ?_)
                         clear hK K
                         refine norm_ (a' := ?_) ?_ ?_
                         rotate_left
                         ·
                          show Act.put _ (some 33) _ = _
                          simp only [Act.put, List.setIfInBounds_toArray, List.set_cons_zero, List.set_cons_succ, i64_w, i32_w]; rfl
                         exact norm_ zq4 (hJ2_9 (_, _) _ ⟨hHeld, (by (with_reducible repeat (first | apply Kd.V_alloc | apply Kd.V_drewN | apply Kd.V_drew)); exact Kd.V_mono HL362_0.out (fun _ hk => ⟨hk.1.1, ⟨hk.2, ⟨hk.1.2.1, ⟨hk.1.2.2.1, ⟨hk.1.2.2.2.1, ⟨hk.1.2.2.2.2.1, ⟨hk.1.2.2.2.2.2.1, hk.1.2.2.2.2.2.2⟩⟩⟩⟩⟩⟩⟩)), (by (with_reducible repeat (first | apply Kd.R_alloc | apply Kd.R_drewN | apply Kd.R_drew)); exact Kd.R_mono HO365.out (fun _ hk => ⟨hk.1.1.1.1, ⟨hk.1.1.2, ⟨hk.1.2, hk.2⟩⟩⟩)), (by (with_reducible repeat (first | apply Kd.R_alloc | apply Kd.R_drewN | apply Kd.R_drew)); exact Kd.R_mono HO377.out (fun _ hk => ⟨hk.1.1, ⟨hk.2, ⟨hk.1.2.1, hk.1.2.2⟩⟩⟩)), (by (with_reducible repeat (first | apply Kd.S_alloc | apply Kd.S_drewN | apply Kd.S_drew)); exact Kd.S_mono HO_25.out (fun _ hk => ⟨hk.1.1, ⟨hk.2, ⟨hk.1.2.1, ⟨hk.1.2.2.1, ⟨hk.1.2.2.2.1, ⟨hk.1.2.2.2.2.1, hk.1.2.2.2.2.2⟩⟩⟩⟩⟩⟩)), (by (with_reducible repeat (first | apply Kd.S_alloc | apply Kd.S_drewN | apply Kd.S_drew)); exact Kd.S_mono HO_8.out (fun _ hk => ⟨hk.1.1, ⟨hk.2, ⟨hk.1.2.1, ⟨hk.1.2.2.1, ⟨hk.1.2.2.2.1, ⟨hk.1.2.2.2.2.1, hk.1.2.2.2.2.2⟩⟩⟩⟩⟩⟩)), (zq1 BK360), (zq1 BK361), (z44_2 HI349), (z44_3 HB)⟩)
                        ·
                         refine Kd.R_lit_step k37 _ 37 ?hg (N := 35) ?hd (xs := ([(⟨t355, t356⟩ : S37)] : List (S37))) (inner := [.int .i64 t355, .int .i64 t356]) (ok := fun _ => True) (okp := fun _ => True) ?hr ?hp (fun _ hk => hk) trivial (Below.refl _ _) (Nat.le_refl _) (by simp) ?_; (case hd => rfl); (case hg => rfl); (case hr => first | (go_simp; done) | (go_simp; rfl)); (case hp => exact (Reps.c2 (show Kd.M k37 _ _ _ (⟨t355, t356⟩ : S37) [.int .i64 t355, .int .i64 t356] from (k37_mkM _ _ _ (⟨t355, t356⟩ : S37) )) (Reps.none _ _)))
                         intro v367 w33 ho34 hb hg_ hnew_
                         clear hg_ hnew_
                         (first | rw [← Ny366.out] at ho34 | (simp only [Int.reduceToNat] at ho34; rw [← Ny366.out] at ho34))
                         have n0_ := Aside0.mk (Kd.S_elder' (by (with_reducible repeat (first | apply Kd.S_alloc | apply Kd.S_drewN | apply Kd.S_drew)); exact HO_8.out) (Kd.R_base ho34) hb)
                         have n1_ := Aside0.mk (Kd.S_elder' (by (with_reducible repeat (first | apply Kd.S_alloc | apply Kd.S_drewN | apply Kd.S_drew)); exact HO_25.out) (Kd.R_base ho34) hb)
                         have n2_ := Aside0.mk (Kd.V_elder' (by (with_reducible repeat (first | apply Kd.V_alloc | apply Kd.V_drewN | apply Kd.V_drew)); exact HL362_0.out) (Kd.R_base ho34) hb)
                         have n3_ := Aside0.mk (Kd.R_elder' (zq3 HO377) (Kd.R_base ho34) hb)
                         have HO368 := Aside0.mk (Kd.R_lower (Kd.R_newB (Kd.R_newB (Kd.R_new' (Kd.R_newM (M := fun k_ => (w.heap.size ≤ k_)) ho34 (below_size (z44_3 HB)) (fun k_ h_ => h_)) (Kd.R_lt (zq3 HO377))) (g := gb360) (o := .cells #[.int .i64 t355, .int .i64 t356] 37 (0, 0)) (zq1 BK360)) (g := gb361) (o := .cells #[.int .i64 t357, .int .i64 t358] 37 (0, 0)) (zq1 BK361)) (below_size (z44_3 HB)))
                         have n5_ := Aside0.mk (zbb BK360 hb)
                         have n6_ := Aside0.mk (zbb BK361 hb)
                         have n7_ := Aside0.mk (IsS27.below (z44_2 HI349) hb)
                         have n8_ := Aside0.mk (below_step (z44_3 HB) hb)
                         clear HO_8 HO_25 HL362_0 HO377 BK360 BK361 HI349 HB
                         have HO_8 := n0_; have HO_25 := n1_; have HL362_0 := n2_; have HO377 := n3_; have BK360 := n5_; have BK361 := n6_; have HI349 := n7_; have HB := n8_
                         clear n0_ n1_ n2_ n3_ n5_ n6_ n7_ n8_ hb ho34
                         refine hK.out _ _ ⟨zc BK360 0, zc BK360 1, zc BK361 0, zc BK361 1⟩ (fun hHeld => ?_)
                         clear hK K
                         refine norm_ (a' := ?_) ?_ ?_
                         rotate_left
                         ·
                          show Act.put _ (some 35) _ = _
                          simp only [Act.put, List.setIfInBounds_toArray, List.set_cons_zero, List.set_cons_succ, i64_w, i32_w]; rfl
                         exact norm_ zq4 (hJ4_9 (_, _) _ ⟨hHeld, (by (with_reducible repeat (first | apply Kd.V_alloc | apply Kd.V_drewN | apply Kd.V_drew)); exact Kd.V_mono HL362_0.out (fun _ hk => ⟨hk.1.1, ⟨hk.2, ⟨hk.1.2.1, ⟨hk.1.2.2.1, ⟨hk.1.2.2.2.1, ⟨hk.1.2.2.2.2.1, ⟨hk.1.2.2.2.2.2.1, hk.1.2.2.2.2.2.2⟩⟩⟩⟩⟩⟩⟩)), (by (with_reducible repeat (first | apply Kd.R_alloc | apply Kd.R_drewN | apply Kd.R_drew)); exact Kd.R_mono HO368.out (fun _ hk => ⟨hk.1.1.1.1, ⟨hk.1.1.2, ⟨hk.1.2, hk.2⟩⟩⟩)), (by (with_reducible repeat (first | apply Kd.R_alloc | apply Kd.R_drewN | apply Kd.R_drew)); exact Kd.R_mono HO377.out (fun _ hk => ⟨hk.1.1, ⟨hk.2, ⟨hk.1.2.1, hk.1.2.2⟩⟩⟩)), (by (with_reducible repeat (first | apply Kd.S_alloc | apply Kd.S_drewN | apply Kd.S_drew)); exact Kd.S_mono HO_25.out (fun _ hk => ⟨hk.1.1, ⟨hk.2, ⟨hk.1.2.1, ⟨hk.1.2.2.1, ⟨hk.1.2.2.2.1, ⟨hk.1.2.2.2.2.1, hk.1.2.2.2.2.2⟩⟩⟩⟩⟩⟩)), (by (with_reducible repeat (first | apply Kd.S_alloc | apply Kd.S_drewN | apply Kd.S_drew)); exact Kd.S_mono HO_8.out (fun _ hk => ⟨hk.1.1, ⟨hk.2, ⟨hk.1.2.1, ⟨hk.1.2.2.1, ⟨hk.1.2.2.2.1, ⟨hk.1.2.2.2.2.1, hk.1.2.2.2.2.2⟩⟩⟩⟩⟩⟩)), (zq1 BK360), (zq1 BK361), (z44_2 HI349), (z44_3 HB)⟩)
                      ·
                       rintro v367 w32 ⟨hS_, h0_, h1_, h2_, h3_, h4_, h5_, h6_, h7_⟩
                       have HO368 : Aside0 (Kd.R k37 37 w32 w.heap.size (fun k_ => (w.heap.size ≤ k_) ∧ k_ ≠ gb360 ∧ k_ ≠ gb361) v367 y366) := ⟨h1_⟩
                       replace HL362_0 : Aside0 (Kd.V k37 37 w32 w.heap.size (fun k_ => (w.heap.size ≤ k_) ∧ some k_ ≠ (v367 : Value).ownBlock ∧ some k_ ≠ (.slice (some ad362) x4_1.length co19 : Value).ownBlock ∧ some k_ ≠ (.slice Ao28 x8_2.length co28 : Value).ownBlock ∧ k_ ≠ gb349 ∧ k_ ≠ gb360 ∧ k_ ≠ gb361) (.slice A362_0 (rd_L4 x4_1 x27_2).length c362_0) (rd_L4 x4_1 x27_2)) := ⟨h0_⟩; replace HO_25 : Aside0 (Kd.S (Kd.slice 37 k37) 51 w32 w.heap.size (fun k_ => (w.heap.size ≤ k_) ∧ some k_ ≠ (v367 : Value).ownBlock ∧ some k_ ≠ (.slice Ao28 x8_2.length co28 : Value).ownBlock ∧ k_ ≠ gb349 ∧ k_ ≠ gb360 ∧ k_ ≠ gb361) (.slice (some ad362) x4_1.length co19) x4_1) := ⟨h2_⟩; replace HO_8 : Aside0 (Kd.S (Kd.slice 37 k37) 51 w32 w.heap.size (fun k_ => (w.heap.size ≤ k_) ∧ some k_ ≠ (v367 : Value).ownBlock ∧ some k_ ≠ (.slice (some ad362) x4_1.length co19 : Value).ownBlock ∧ k_ ≠ gb349 ∧ k_ ≠ gb360 ∧ k_ ≠ gb361) (.slice Ao28 x8_2.length co28) x8_2) := ⟨h3_⟩; replace BK360 : Aside0 (w32.heap[gb360]? = some (.cells #[.int .i64 t355, .int .i64 t356] 37 (0, 0))) := ⟨h4_⟩; replace BK361 : Aside0 (w32.heap[gb361]? = some (.cells #[.int .i64 t357, .int .i64 t358] 37 (0, 0))) := ⟨h5_⟩; replace HI349 : Aside0 (IsS27 w w32 gb349 t351 l0_1 l0_2) := ⟨h6_⟩; replace HB : Aside0 (Below w.heap.size w w32) := ⟨h7_⟩
                       clear HR362_0 h0_ h1_ h2_ h3_ h4_ h5_ h6_ h7_
                       have hHeld : w32.cell? ⟨gb360, 0, none⟩ = some (.int .i64 t355) ∧ w32.cell? ⟨gb360, 1, none⟩ = some (.int .i64 t356) ∧ w32.cell? ⟨gb361, 0, none⟩ = some (.int .i64 t357) ∧ w32.cell? ⟨gb361, 1, none⟩ = some (.int .i64 t358) := hS_
                       refine norm_ (a' := ?_) ?_ ?_
                       rotate_left
                       ·
                        simp only [putAll, Act.put, List.setIfInBounds_toArray, List.set_cons_zero, List.set_cons_succ]
                        rfl
                       refine two_ (i := 2) (j := 9) (Ni := some 33) (Nj := some 40) #[true, true, true, true, true, false, true, false, true, false, false, false, false, false] #[true, true, false, true, true, false, true, false, true, true, false, false, false, false] rfl rfl rfl rfl (two_of HT_.out (by kernel_rfl)) (by decide) (by decide) (fun K hK => ?_) (fun K hK => ?_)
                       ·
                        refine goes_ Try.func86 (by kernel_rfl) rfl #[.slice A362_0 (rd_L4 x4_1 x27_2).length c362_0] (by rfl) rfl rfl zq6 ?_
                        with_reducible refine (impl_Dyadic.calls _ _ (rd_L4 x4_1 x27_2) t363 _ ?side1 ?side2 A23.out).mono ?_
                        (case side1 => repeat (first | exact ((Kd.V_reads' (by (with_reducible repeat (first | apply Kd.V_alloc | apply Kd.V_drewN | apply Kd.V_drew)); exact HL362_0.out)).2.2) | (with_reducible refine Kd.C_alloc ?_ _) | (with_reducible refine Kd.C_drewN ?_ _) | (with_reducible refine Kd.C_drew ?_)))
                        (case side2 => exact HC362_0.out)
                        rintro e w33 ⟨v364, rfl, ho0, hb⟩
                        refine ⟨_, rfl, ?_⟩
                        have HO365 := Aside0.mk (Kd.R_lower (Kd.R_newB (Kd.R_newB (Kd.R_new' (Kd.R_newM (M := fun k_ => (w.heap.size ≤ k_)) ho0 (below_size (z44_3 HB)) (fun k_ h_ => h_)) (Kd.R_lt (zq3 HO368))) (g := gb360) (o := .cells #[.int .i64 t355, .int .i64 t356] 37 (0, 0)) (zq1 BK360)) (g := gb361) (o := .cells #[.int .i64 t357, .int .i64 t358] 37 (0, 0)) (zq1 BK361)) (below_size (z44_3 HB)))
                        replace HO_8 := Aside0.mk (Kd.S_elder' (by (with_reducible repeat (first | apply Kd.S_alloc | apply Kd.S_drewN | apply Kd.S_drew)); exact HO_8.out) (Kd.R_base ho0) hb); replace HO_25 := Aside0.mk (Kd.S_elder' (by (with_reducible repeat (first | apply Kd.S_alloc | apply Kd.S_drewN | apply Kd.S_drew)); exact HO_25.out) (Kd.R_base ho0) hb); replace HL362_0 := Aside0.mk (Kd.V_elder' (by (with_reducible repeat (first | apply Kd.V_alloc | apply Kd.V_drewN | apply Kd.V_drew)); exact HL362_0.out) (Kd.R_base ho0) hb); replace HO368 := Aside0.mk (Kd.R_elder' (zq3 HO368) (Kd.R_base ho0) hb); replace BK360 := Aside0.mk (zbb BK360 hb); replace BK361 := Aside0.mk (zbb BK361 hb); replace HI349 := Aside0.mk (IsS27.below (z44_2 HI349) hb); replace HB := Aside0.mk (below_step (z44_3 HB) hb)
                        (try clear hb)
                        (try clear hb2)
                        (try clear hk)
                        (try clear hi)
                        (try clear ho0)
                        refine hK.out _ _ ⟨zc BK360 0, zc BK360 1, zc BK361 0, zc BK361 1⟩ (fun hHeld => ?_)
                        clear hK K
                        refine norm_ (a' := ?_) ?_ ?_
                        rotate_left
                        ·
                         show Act.put _ (some 33) _ = _
                         simp only [Act.put, List.setIfInBounds_toArray, List.set_cons_zero, List.set_cons_succ, i64_w, i32_w]; rfl
                        exact norm_ zq4 (hJ2_4 (_, _) _ ⟨hHeld, (by (with_reducible repeat (first | apply Kd.V_alloc | apply Kd.V_drewN | apply Kd.V_drew)); exact Kd.V_mono HL362_0.out (fun _ hk => ⟨hk.1.1, ⟨hk.2, ⟨hk.1.2.1, ⟨hk.1.2.2.1, ⟨hk.1.2.2.2.1, ⟨hk.1.2.2.2.2.1, ⟨hk.1.2.2.2.2.2.1, hk.1.2.2.2.2.2.2⟩⟩⟩⟩⟩⟩⟩)), (by (with_reducible repeat (first | apply Kd.R_alloc | apply Kd.R_drewN | apply Kd.R_drew)); exact Kd.R_mono HO365.out (fun _ hk => ⟨hk.1.1.1.1, ⟨hk.1.1.2, ⟨hk.1.2, hk.2⟩⟩⟩)), (by (with_reducible repeat (first | apply Kd.R_alloc | apply Kd.R_drewN | apply Kd.R_drew)); exact Kd.R_mono HO368.out (fun _ hk => ⟨hk.1.1, ⟨hk.2, ⟨hk.1.2.1, hk.1.2.2⟩⟩⟩)), (by (with_reducible repeat (first | apply Kd.S_alloc | apply Kd.S_drewN | apply Kd.S_drew)); exact Kd.S_mono HO_25.out (fun _ hk => ⟨hk.1.1, ⟨hk.2, ⟨hk.1.2.1, ⟨hk.1.2.2.1, ⟨hk.1.2.2.2.1, ⟨hk.1.2.2.2.2.1, hk.1.2.2.2.2.2⟩⟩⟩⟩⟩⟩)), (by (with_reducible repeat (first | apply Kd.S_alloc | apply Kd.S_drewN | apply Kd.S_drew)); exact Kd.S_mono HO_8.out (fun _ hk => ⟨hk.1.1, ⟨hk.2, ⟨hk.1.2.1, ⟨hk.1.2.2.1, ⟨hk.1.2.2.2.1, ⟨hk.1.2.2.2.2.1, hk.1.2.2.2.2.2⟩⟩⟩⟩⟩⟩)), (zq1 BK360), (zq1 BK361), (z44_2 HI349), (z44_3 HB)⟩)
                       ·
                        refine Kd.R_lit_step k37 _ 37 ?hg (N := 40) ?hd (xs := ([(⟨t357, t358⟩ : S37)] : List (S37))) (inner := [.int .i64 t357, .int .i64 t358]) (ok := fun _ => True) (okp := fun _ => True) ?hr ?hp (fun _ hk => hk) trivial (Below.refl _ _) (Nat.le_refl _) (by simp) ?_; (case hd => rfl); (case hg => rfl); (case hr => first | (go_simp; done) | (go_simp; rfl)); (case hp => exact (Reps.c2 (show Kd.M k37 _ _ _ (⟨t357, t358⟩ : S37) [.int .i64 t357, .int .i64 t358] from (k37_mkM _ _ _ (⟨t357, t358⟩ : S37) )) (Reps.none _ _)))
                        intro v376 w33 ho34 hb hg_ hnew_
                        clear hg_ hnew_
                        (first | rw [← Ny375.out] at ho34 | (simp only [Int.reduceToNat] at ho34; rw [← Ny375.out] at ho34))
                        have n0_ := Aside0.mk (Kd.S_elder' (by (with_reducible repeat (first | apply Kd.S_alloc | apply Kd.S_drewN | apply Kd.S_drew)); exact HO_8.out) (Kd.R_base ho34) hb)
                        have n1_ := Aside0.mk (Kd.S_elder' (by (with_reducible repeat (first | apply Kd.S_alloc | apply Kd.S_drewN | apply Kd.S_drew)); exact HO_25.out) (Kd.R_base ho34) hb)
                        have n2_ := Aside0.mk (Kd.V_elder' (by (with_reducible repeat (first | apply Kd.V_alloc | apply Kd.V_drewN | apply Kd.V_drew)); exact HL362_0.out) (Kd.R_base ho34) hb)
                        have n3_ := Aside0.mk (Kd.R_elder' (zq3 HO368) (Kd.R_base ho34) hb)
                        have HO377 := Aside0.mk (Kd.R_lower (Kd.R_newB (Kd.R_newB (Kd.R_new' (Kd.R_newM (M := fun k_ => (w.heap.size ≤ k_)) ho34 (below_size (z44_3 HB)) (fun k_ h_ => h_)) (Kd.R_lt (zq3 HO368))) (g := gb360) (o := .cells #[.int .i64 t355, .int .i64 t356] 37 (0, 0)) (zq1 BK360)) (g := gb361) (o := .cells #[.int .i64 t357, .int .i64 t358] 37 (0, 0)) (zq1 BK361)) (below_size (z44_3 HB)))
                        have n5_ := Aside0.mk (zbb BK360 hb)
                        have n6_ := Aside0.mk (zbb BK361 hb)
                        have n7_ := Aside0.mk (IsS27.below (z44_2 HI349) hb)
                        have n8_ := Aside0.mk (below_step (z44_3 HB) hb)
                        clear HO_8 HO_25 HL362_0 HO368 BK360 BK361 HI349 HB
                        have HO_8 := n0_; have HO_25 := n1_; have HL362_0 := n2_; have HO368 := n3_; have BK360 := n5_; have BK361 := n6_; have HI349 := n7_; have HB := n8_
                        clear n0_ n1_ n2_ n3_ n5_ n6_ n7_ n8_ hb ho34
                        refine hK.out _ _ ⟨zc BK360 0, zc BK360 1, zc BK361 0, zc BK361 1⟩ (fun hHeld => ?_)
                        clear hK K
                        refine norm_ (a' := ?_) ?_ ?_
                        rotate_left
                        ·
                         show Act.put _ (some 40) _ = _
                         simp only [Act.put, List.setIfInBounds_toArray, List.set_cons_zero, List.set_cons_succ, i64_w, i32_w]; rfl
                        exact norm_ zq4 (hJ4_9 (_, _) _ ⟨hHeld, (by (with_reducible repeat (first | apply Kd.V_alloc | apply Kd.V_drewN | apply Kd.V_drew)); exact Kd.V_mono HL362_0.out (fun _ hk => ⟨hk.1.1, ⟨hk.1.2.1, ⟨hk.2, ⟨hk.1.2.2.1, ⟨hk.1.2.2.2.1, ⟨hk.1.2.2.2.2.1, ⟨hk.1.2.2.2.2.2.1, hk.1.2.2.2.2.2.2⟩⟩⟩⟩⟩⟩⟩)), (by (with_reducible repeat (first | apply Kd.R_alloc | apply Kd.R_drewN | apply Kd.R_drew)); exact Kd.R_mono HO368.out (fun _ hk => ⟨hk.1.1, ⟨hk.2, ⟨hk.1.2.1, hk.1.2.2⟩⟩⟩)), (by (with_reducible repeat (first | apply Kd.R_alloc | apply Kd.R_drewN | apply Kd.R_drew)); exact Kd.R_mono HO377.out (fun _ hk => ⟨hk.1.1.1.1, ⟨hk.1.1.2, ⟨hk.1.2, hk.2⟩⟩⟩)), (by (with_reducible repeat (first | apply Kd.S_alloc | apply Kd.S_drewN | apply Kd.S_drew)); exact Kd.S_mono HO_25.out (fun _ hk => ⟨hk.1.1, ⟨hk.1.2.1, ⟨hk.2, ⟨hk.1.2.2.1, ⟨hk.1.2.2.2.1, ⟨hk.1.2.2.2.2.1, hk.1.2.2.2.2.2⟩⟩⟩⟩⟩⟩)), (by (with_reducible repeat (first | apply Kd.S_alloc | apply Kd.S_drewN | apply Kd.S_drew)); exact Kd.S_mono HO_8.out (fun _ hk => ⟨hk.1.1, ⟨hk.1.2.1, ⟨hk.2, ⟨hk.1.2.2.1, ⟨hk.1.2.2.2.1, ⟨hk.1.2.2.2.2.1, hk.1.2.2.2.2.2⟩⟩⟩⟩⟩⟩)), (zq1 BK360), (zq1 BK361), (z44_2 HI349), (z44_3 HB)⟩)
                     ·
                      rintro v364 w31 ⟨hS_, h0_, h1_, h2_, h3_, h4_, h5_, h6_, h7_⟩
                      have HO365 : Aside0 (Kd.R k37 37 w31 w.heap.size (fun k_ => (w.heap.size ≤ k_) ∧ k_ ≠ gb360 ∧ k_ ≠ gb361) v364 t363) := ⟨h1_⟩
                      replace HL362_0 : Aside0 (Kd.V k37 37 w31 w.heap.size (fun k_ => (w.heap.size ≤ k_) ∧ some k_ ≠ (v364 : Value).ownBlock ∧ some k_ ≠ (.slice (some ad362) x4_1.length co19 : Value).ownBlock ∧ some k_ ≠ (.slice Ao28 x8_2.length co28 : Value).ownBlock ∧ k_ ≠ gb349 ∧ k_ ≠ gb360 ∧ k_ ≠ gb361) (.slice A362_0 (rd_L4 x4_1 x27_2).length c362_0) (rd_L4 x4_1 x27_2)) := ⟨h0_⟩; replace HO_25 : Aside0 (Kd.S (Kd.slice 37 k37) 51 w31 w.heap.size (fun k_ => (w.heap.size ≤ k_) ∧ some k_ ≠ (v364 : Value).ownBlock ∧ some k_ ≠ (.slice Ao28 x8_2.length co28 : Value).ownBlock ∧ k_ ≠ gb349 ∧ k_ ≠ gb360 ∧ k_ ≠ gb361) (.slice (some ad362) x4_1.length co19) x4_1) := ⟨h2_⟩; replace HO_8 : Aside0 (Kd.S (Kd.slice 37 k37) 51 w31 w.heap.size (fun k_ => (w.heap.size ≤ k_) ∧ some k_ ≠ (v364 : Value).ownBlock ∧ some k_ ≠ (.slice (some ad362) x4_1.length co19 : Value).ownBlock ∧ k_ ≠ gb349 ∧ k_ ≠ gb360 ∧ k_ ≠ gb361) (.slice Ao28 x8_2.length co28) x8_2) := ⟨h3_⟩; replace BK360 : Aside0 (w31.heap[gb360]? = some (.cells #[.int .i64 t355, .int .i64 t356] 37 (0, 0))) := ⟨h4_⟩; replace BK361 : Aside0 (w31.heap[gb361]? = some (.cells #[.int .i64 t357, .int .i64 t358] 37 (0, 0))) := ⟨h5_⟩; replace HI349 : Aside0 (IsS27 w w31 gb349 t351 l0_1 l0_2) := ⟨h6_⟩; replace HB : Aside0 (Below w.heap.size w w31) := ⟨h7_⟩
                      clear HR362_0 h0_ h1_ h2_ h3_ h4_ h5_ h6_ h7_
                      have hHeld : w31.cell? ⟨gb360, 0, none⟩ = some (.int .i64 t355) ∧ w31.cell? ⟨gb360, 1, none⟩ = some (.int .i64 t356) ∧ w31.cell? ⟨gb361, 0, none⟩ = some (.int .i64 t357) ∧ w31.cell? ⟨gb361, 1, none⟩ = some (.int .i64 t358) := hS_
                      refine norm_ (a' := ?_) ?_ ?_
                      rotate_left
                      ·
                       simp only [putAll, Act.put, List.setIfInBounds_toArray, List.set_cons_zero, List.set_cons_succ]
                       rfl
                      refine two_ (i := 4) (j := 9) (Ni := some 35) (Nj := some 40) #[true, true, true, true, true, false, true, false, true, false, false, false, false, false] #[true, true, true, true, false, false, true, false, true, true, false, false, false, false] rfl rfl rfl rfl (two_of HT_.out (by kernel_rfl)) (by decide) (by decide) (fun K hK => ?_) (fun K hK => ?_)
                      ·
                       refine Kd.R_lit_step k37 _ 37 ?hg (N := 35) ?hd (xs := ([(⟨t355, t356⟩ : S37)] : List (S37))) (inner := [.int .i64 t355, .int .i64 t356]) (ok := fun _ => True) (okp := fun _ => True) ?hr ?hp (fun _ hk => hk) trivial (Below.refl _ _) (Nat.le_refl _) (by simp) ?_; (case hd => rfl); (case hg => rfl); (case hr => first | (go_simp; done) | (go_simp; rfl)); (case hp => exact (Reps.c2 (show Kd.M k37 _ _ _ (⟨t355, t356⟩ : S37) [.int .i64 t355, .int .i64 t356] from (k37_mkM _ _ _ (⟨t355, t356⟩ : S37) )) (Reps.none _ _)))
                       intro v367 w32 ho33 hb hg_ hnew_
                       clear hg_ hnew_
                       (first | rw [← Ny366.out] at ho33 | (simp only [Int.reduceToNat] at ho33; rw [← Ny366.out] at ho33))
                       have n0_ := Aside0.mk (Kd.S_elder' (by (with_reducible repeat (first | apply Kd.S_alloc | apply Kd.S_drewN | apply Kd.S_drew)); exact HO_8.out) (Kd.R_base ho33) hb)
                       have n1_ := Aside0.mk (Kd.S_elder' (by (with_reducible repeat (first | apply Kd.S_alloc | apply Kd.S_drewN | apply Kd.S_drew)); exact HO_25.out) (Kd.R_base ho33) hb)
                       have n2_ := Aside0.mk (Kd.V_elder' (by (with_reducible repeat (first | apply Kd.V_alloc | apply Kd.V_drewN | apply Kd.V_drew)); exact HL362_0.out) (Kd.R_base ho33) hb)
                       have n3_ := Aside0.mk (Kd.R_elder' (zq3 HO365) (Kd.R_base ho33) hb)
                       have HO368 := Aside0.mk (Kd.R_lower (Kd.R_newB (Kd.R_newB (Kd.R_new' (Kd.R_newM (M := fun k_ => (w.heap.size ≤ k_)) ho33 (below_size (z44_3 HB)) (fun k_ h_ => h_)) (Kd.R_lt (zq3 HO365))) (g := gb360) (o := .cells #[.int .i64 t355, .int .i64 t356] 37 (0, 0)) (zq1 BK360)) (g := gb361) (o := .cells #[.int .i64 t357, .int .i64 t358] 37 (0, 0)) (zq1 BK361)) (below_size (z44_3 HB)))
                       have n5_ := Aside0.mk (zbb BK360 hb)
                       have n6_ := Aside0.mk (zbb BK361 hb)
                       have n7_ := Aside0.mk (IsS27.below (z44_2 HI349) hb)
                       have n8_ := Aside0.mk (below_step (z44_3 HB) hb)
                       clear HO_8 HO_25 HL362_0 HO365 BK360 BK361 HI349 HB
                       have HO_8 := n0_; have HO_25 := n1_; have HL362_0 := n2_; have HO365 := n3_; have BK360 := n5_; have BK361 := n6_; have HI349 := n7_; have HB := n8_
                       clear n0_ n1_ n2_ n3_ n5_ n6_ n7_ n8_ hb ho33
                       refine hK.out _ _ ⟨zc BK360 0, zc BK360 1, zc BK361 0, zc BK361 1⟩ (fun hHeld => ?_)
                       clear hK K
                       refine norm_ (a' := ?_) ?_ ?_
                       rotate_left
                       ·
                        show Act.put _ (some 35) _ = _
                        simp only [Act.put, List.setIfInBounds_toArray, List.set_cons_zero, List.set_cons_succ, i64_w, i32_w]; rfl
                       exact norm_ zq4 (hJ2_4 (_, _) _ ⟨hHeld, (by (with_reducible repeat (first | apply Kd.V_alloc | apply Kd.V_drewN | apply Kd.V_drew)); exact Kd.V_mono HL362_0.out (fun _ hk => ⟨hk.1.1, ⟨hk.1.2.1, ⟨hk.2, ⟨hk.1.2.2.1, ⟨hk.1.2.2.2.1, ⟨hk.1.2.2.2.2.1, ⟨hk.1.2.2.2.2.2.1, hk.1.2.2.2.2.2.2⟩⟩⟩⟩⟩⟩⟩)), (by (with_reducible repeat (first | apply Kd.R_alloc | apply Kd.R_drewN | apply Kd.R_drew)); exact Kd.R_mono HO365.out (fun _ hk => ⟨hk.1.1, ⟨hk.2, ⟨hk.1.2.1, hk.1.2.2⟩⟩⟩)), (by (with_reducible repeat (first | apply Kd.R_alloc | apply Kd.R_drewN | apply Kd.R_drew)); exact Kd.R_mono HO368.out (fun _ hk => ⟨hk.1.1.1.1, ⟨hk.1.1.2, ⟨hk.1.2, hk.2⟩⟩⟩)), (by (with_reducible repeat (first | apply Kd.S_alloc | apply Kd.S_drewN | apply Kd.S_drew)); exact Kd.S_mono HO_25.out (fun _ hk => ⟨hk.1.1, ⟨hk.1.2.1, ⟨hk.2, ⟨hk.1.2.2.1, ⟨hk.1.2.2.2.1, ⟨hk.1.2.2.2.2.1, hk.1.2.2.2.2.2⟩⟩⟩⟩⟩⟩)), (by (with_reducible repeat (first | apply Kd.S_alloc | apply Kd.S_drewN | apply Kd.S_drew)); exact Kd.S_mono HO_8.out (fun _ hk => ⟨hk.1.1, ⟨hk.1.2.1, ⟨hk.2, ⟨hk.1.2.2.1, ⟨hk.1.2.2.2.1, ⟨hk.1.2.2.2.2.1, hk.1.2.2.2.2.2⟩⟩⟩⟩⟩⟩)), (zq1 BK360), (zq1 BK361), (z44_2 HI349), (z44_3 HB)⟩)
                      ·
                       refine Kd.R_lit_step k37 _ 37 ?hg (N := 40) ?hd (xs := ([(⟨t357, t358⟩ : S37)] : List (S37))) (inner := [.int .i64 t357, .int .i64 t358]) (ok := fun _ => True) (okp := fun _ => True) ?hr ?hp (fun _ hk => hk) trivial (Below.refl _ _) (Nat.le_refl _) (by simp) ?_; (case hd => rfl); (case hg => rfl); (case hr => first | (go_simp; done) | (go_simp; rfl)); (case hp => exact (Reps.c2 (show Kd.M k37 _ _ _ (⟨t357, t358⟩ : S37) [.int .i64 t357, .int .i64 t358] from (k37_mkM _ _ _ (⟨t357, t358⟩ : S37) )) (Reps.none _ _)))
                       intro v376 w32 ho33 hb hg_ hnew_
                       clear hg_ hnew_
                       (first | rw [← Ny375.out] at ho33 | (simp only [Int.reduceToNat] at ho33; rw [← Ny375.out] at ho33))
                       have n0_ := Aside0.mk (Kd.S_elder' (by (with_reducible repeat (first | apply Kd.S_alloc | apply Kd.S_drewN | apply Kd.S_drew)); exact HO_8.out) (Kd.R_base ho33) hb)
                       have n1_ := Aside0.mk (Kd.S_elder' (by (with_reducible repeat (first | apply Kd.S_alloc | apply Kd.S_drewN | apply Kd.S_drew)); exact HO_25.out) (Kd.R_base ho33) hb)
                       have n2_ := Aside0.mk (Kd.V_elder' (by (with_reducible repeat (first | apply Kd.V_alloc | apply Kd.V_drewN | apply Kd.V_drew)); exact HL362_0.out) (Kd.R_base ho33) hb)
                       have n3_ := Aside0.mk (Kd.R_elder' (zq3 HO365) (Kd.R_base ho33) hb)
                       have HO377 := Aside0.mk (Kd.R_lower (Kd.R_newB (Kd.R_newB (Kd.R_new' (Kd.R_newM (M := fun k_ => (w.heap.size ≤ k_)) ho33 (below_size (z44_3 HB)) (fun k_ h_ => h_)) (Kd.R_lt (zq3 HO365))) (g := gb360) (o := .cells #[.int .i64 t355, .int .i64 t356] 37 (0, 0)) (zq1 BK360)) (g := gb361) (o := .cells #[.int .i64 t357, .int .i64 t358] 37 (0, 0)) (zq1 BK361)) (below_size (z44_3 HB)))
                       have n5_ := Aside0.mk (zbb BK360 hb)
                       have n6_ := Aside0.mk (zbb BK361 hb)
                       have n7_ := Aside0.mk (IsS27.below (z44_2 HI349) hb)
                       have n8_ := Aside0.mk (below_step (z44_3 HB) hb)
                       clear HO_8 HO_25 HL362_0 HO365 BK360 BK361 HI349 HB
                       have HO_8 := n0_; have HO_25 := n1_; have HL362_0 := n2_; have HO365 := n3_; have BK360 := n5_; have BK361 := n6_; have HI349 := n7_; have HB := n8_
                       clear n0_ n1_ n2_ n3_ n5_ n6_ n7_ n8_ hb ho33
                       refine hK.out _ _ ⟨zc BK360 0, zc BK360 1, zc BK361 0, zc BK361 1⟩ (fun hHeld => ?_)
                       clear hK K
                       refine norm_ (a' := ?_) ?_ ?_
                       rotate_left
                       ·
                        show Act.put _ (some 40) _ = _
                        simp only [Act.put, List.setIfInBounds_toArray, List.set_cons_zero, List.set_cons_succ, i64_w, i32_w]; rfl
                       exact norm_ zq4 (hJ2_9 (_, _) _ ⟨hHeld, (by (with_reducible repeat (first | apply Kd.V_alloc | apply Kd.V_drewN | apply Kd.V_drew)); exact Kd.V_mono HL362_0.out (fun _ hk => ⟨hk.1.1, ⟨hk.1.2.1, ⟨hk.2, ⟨hk.1.2.2.1, ⟨hk.1.2.2.2.1, ⟨hk.1.2.2.2.2.1, ⟨hk.1.2.2.2.2.2.1, hk.1.2.2.2.2.2.2⟩⟩⟩⟩⟩⟩⟩)), (by (with_reducible repeat (first | apply Kd.R_alloc | apply Kd.R_drewN | apply Kd.R_drew)); exact Kd.R_mono HO365.out (fun _ hk => ⟨hk.1.1, ⟨hk.2, ⟨hk.1.2.1, hk.1.2.2⟩⟩⟩)), (by (with_reducible repeat (first | apply Kd.R_alloc | apply Kd.R_drewN | apply Kd.R_drew)); exact Kd.R_mono HO377.out (fun _ hk => ⟨hk.1.1.1.1, ⟨hk.1.1.2, ⟨hk.1.2, hk.2⟩⟩⟩)), (by (with_reducible repeat (first | apply Kd.S_alloc | apply Kd.S_drewN | apply Kd.S_drew)); exact Kd.S_mono HO_25.out (fun _ hk => ⟨hk.1.1, ⟨hk.1.2.1, ⟨hk.2, ⟨hk.1.2.2.1, ⟨hk.1.2.2.2.1, ⟨hk.1.2.2.2.2.1, hk.1.2.2.2.2.2⟩⟩⟩⟩⟩⟩)), (by (with_reducible repeat (first | apply Kd.S_alloc | apply Kd.S_drewN | apply Kd.S_drew)); exact Kd.S_mono HO_8.out (fun _ hk => ⟨hk.1.1, ⟨hk.1.2.1, ⟨hk.2, ⟨hk.1.2.2.1, ⟨hk.1.2.2.2.1, ⟨hk.1.2.2.2.2.1, hk.1.2.2.2.2.2⟩⟩⟩⟩⟩⟩)), (zq1 BK360), (zq1 BK361), (z44_2 HI349), (z44_3 HB)⟩)
                    ·
                     rintro ⟨v367, v376⟩ w34 ⟨hS_, h0_, h1_, h2_, h3_, h4_, h5_, h6_, h7_, h8_⟩
                     have HO368 : Aside0 (Kd.R k37 37 w34 w.heap.size (fun k_ => (w.heap.size ≤ k_) ∧ some k_ ≠ (v376 : Value).ownBlock ∧ k_ ≠ gb360 ∧ k_ ≠ gb361) v367 y366) := ⟨h1_⟩
                     have HO377 : Aside0 (Kd.R k37 37 w34 w.heap.size (fun k_ => (w.heap.size ≤ k_) ∧ some k_ ≠ (v367 : Value).ownBlock ∧ k_ ≠ gb360 ∧ k_ ≠ gb361) v376 y375) := ⟨h2_⟩
                     replace HL362_0 : Aside0 (Kd.V k37 37 w34 w.heap.size (fun k_ => (w.heap.size ≤ k_) ∧ some k_ ≠ (v367 : Value).ownBlock ∧ some k_ ≠ (v376 : Value).ownBlock ∧ some k_ ≠ (.slice (some ad362) x4_1.length co19 : Value).ownBlock ∧ some k_ ≠ (.slice Ao28 x8_2.length co28 : Value).ownBlock ∧ k_ ≠ gb349 ∧ k_ ≠ gb360 ∧ k_ ≠ gb361) (.slice A362_0 (rd_L4 x4_1 x27_2).length c362_0) (rd_L4 x4_1 x27_2)) := ⟨h0_⟩; replace HO_25 : Aside0 (Kd.S (Kd.slice 37 k37) 51 w34 w.heap.size (fun k_ => (w.heap.size ≤ k_) ∧ some k_ ≠ (v367 : Value).ownBlock ∧ some k_ ≠ (v376 : Value).ownBlock ∧ some k_ ≠ (.slice Ao28 x8_2.length co28 : Value).ownBlock ∧ k_ ≠ gb349 ∧ k_ ≠ gb360 ∧ k_ ≠ gb361) (.slice (some ad362) x4_1.length co19) x4_1) := ⟨h3_⟩; replace HO_8 : Aside0 (Kd.S (Kd.slice 37 k37) 51 w34 w.heap.size (fun k_ => (w.heap.size ≤ k_) ∧ some k_ ≠ (v367 : Value).ownBlock ∧ some k_ ≠ (v376 : Value).ownBlock ∧ some k_ ≠ (.slice (some ad362) x4_1.length co19 : Value).ownBlock ∧ k_ ≠ gb349 ∧ k_ ≠ gb360 ∧ k_ ≠ gb361) (.slice Ao28 x8_2.length co28) x8_2) := ⟨h4_⟩; replace BK360 : Aside0 (w34.heap[gb360]? = some (.cells #[.int .i64 t355, .int .i64 t356] 37 (0, 0))) := ⟨h5_⟩; replace BK361 : Aside0 (w34.heap[gb361]? = some (.cells #[.int .i64 t357, .int .i64 t358] 37 (0, 0))) := ⟨h6_⟩; replace HI349 : Aside0 (IsS27 w w34 gb349 t351 l0_1 l0_2) := ⟨h7_⟩; replace HB : Aside0 (Below w.heap.size w w34) := ⟨h8_⟩
                     clear HR362_0 h0_ h1_ h2_ h3_ h4_ h5_ h6_ h7_ h8_
                     have hHeld : w34.cell? ⟨gb360, 0, none⟩ = some (.int .i64 t355) ∧ w34.cell? ⟨gb360, 1, none⟩ = some (.int .i64 t356) ∧ w34.cell? ⟨gb361, 0, none⟩ = some (.int .i64 t357) ∧ w34.cell? ⟨gb361, 1, none⟩ = some (.int .i64 t358) := hS_
                     refine norm_ (a' := ?_) ?_ ?_
                     rotate_left
                     ·
                      simp only [putAll, Act.put, List.setIfInBounds_toArray, List.set_cons_zero, List.set_cons_succ]
                      rfl
                     refine one_ (i := 2) (N := some 33) #[true, true, true, true, true, false, true, false, true, true, false, false, false, false] rfl rfl (one_of HT_.out (by kernel_rfl)) (by decide) (fun K hK => ?_)
                     refine goes_ Try.func86 (by kernel_rfl) rfl #[.slice A362_0 (rd_L4 x4_1 x27_2).length c362_0] (by rfl) rfl rfl zq6 ?_
                     with_reducible refine (impl_Dyadic.calls _ _ (rd_L4 x4_1 x27_2) t363 _ ?side1 ?side2 A23.out).mono ?_
                     (case side1 => repeat (first | exact ((Kd.V_reads' (by (with_reducible repeat (first | apply Kd.V_alloc | apply Kd.V_drewN | apply Kd.V_drew)); exact HL362_0.out)).2.2) | (with_reducible refine Kd.C_alloc ?_ _) | (with_reducible refine Kd.C_drewN ?_ _) | (with_reducible refine Kd.C_drew ?_)))
                     (case side2 => exact HC362_0.out)
                     rintro e w35 ⟨v364, rfl, ho0, hb⟩
                     refine ⟨_, rfl, ?_⟩
                     have HO365 := Aside0.mk (Kd.R_lower (Kd.R_newB (Kd.R_newB (Kd.R_new' (Kd.R_new' (Kd.R_newM (M := fun k_ => (w.heap.size ≤ k_)) ho0 (below_size (z44_3 HB)) (fun k_ h_ => h_)) (Kd.R_lt (zq3 HO368))) (Kd.R_lt (zq3 HO377))) (g := gb360) (o := .cells #[.int .i64 t355, .int .i64 t356] 37 (0, 0)) (zq1 BK360)) (g := gb361) (o := .cells #[.int .i64 t357, .int .i64 t358] 37 (0, 0)) (zq1 BK361)) (below_size (z44_3 HB)))
                     replace HO_8 := Aside0.mk (Kd.S_elder' (by (with_reducible repeat (first | apply Kd.S_alloc | apply Kd.S_drewN | apply Kd.S_drew)); exact HO_8.out) (Kd.R_base ho0) hb); replace HO_25 := Aside0.mk (Kd.S_elder' (by (with_reducible repeat (first | apply Kd.S_alloc | apply Kd.S_drewN | apply Kd.S_drew)); exact HO_25.out) (Kd.R_base ho0) hb); replace HL362_0 := Aside0.mk (Kd.V_elder' (by (with_reducible repeat (first | apply Kd.V_alloc | apply Kd.V_drewN | apply Kd.V_drew)); exact HL362_0.out) (Kd.R_base ho0) hb); replace HO368 := Aside0.mk (Kd.R_elder' (zq3 HO368) (Kd.R_base ho0) hb); replace HO377 := Aside0.mk (Kd.R_elder' (zq3 HO377) (Kd.R_base ho0) hb); replace BK360 := Aside0.mk (zbb BK360 hb); replace BK361 := Aside0.mk (zbb BK361 hb); replace HI349 := Aside0.mk (IsS27.below (z44_2 HI349) hb); replace HB := Aside0.mk (below_step (z44_3 HB) hb)
                     (try clear hb)
                     (try clear hb2)
                     (try clear hk)
                     (try clear hi)
                     (try clear ho0)
                     refine hK.out _ _ ⟨zc BK360 0, zc BK360 1, zc BK361 0, zc BK361 1⟩ (fun hHeld => ?_)
                     clear hK K
                     refine norm_ (a' := ?_) ?_ ?_
                     rotate_left
                     ·
                      show Act.put _ (some 33) _ = _
                      simp only [Act.put, List.setIfInBounds_toArray, List.set_cons_zero, List.set_cons_succ, i64_w, i32_w]; rfl
                     exact norm_ zq4 (hJ2_4_9 (_, _, _) _ ⟨hHeld, (by (with_reducible repeat (first | apply Kd.V_alloc | apply Kd.V_drewN | apply Kd.V_drew)); exact Kd.V_mono HL362_0.out (fun _ hk => ⟨hk.1.1, ⟨hk.2, ⟨hk.1.2.1, ⟨hk.1.2.2.1, ⟨hk.1.2.2.2.1, ⟨hk.1.2.2.2.2.1, ⟨hk.1.2.2.2.2.2.1, ⟨hk.1.2.2.2.2.2.2.1, hk.1.2.2.2.2.2.2.2⟩⟩⟩⟩⟩⟩⟩⟩)), (by (with_reducible repeat (first | apply Kd.R_alloc | apply Kd.R_drewN | apply Kd.R_drew)); exact Kd.R_mono HO365.out (fun _ hk => ⟨hk.1.1.1.1.1, ⟨hk.1.1.1.2, ⟨hk.1.1.2, ⟨hk.1.2, hk.2⟩⟩⟩⟩)), (by (with_reducible repeat (first | apply Kd.R_alloc | apply Kd.R_drewN | apply Kd.R_drew)); exact Kd.R_mono HO368.out (fun _ hk => ⟨hk.1.1, ⟨hk.2, ⟨hk.1.2.1, ⟨hk.1.2.2.1, hk.1.2.2.2⟩⟩⟩⟩)), (by (with_reducible repeat (first | apply Kd.R_alloc | apply Kd.R_drewN | apply Kd.R_drew)); exact Kd.R_mono HO377.out (fun _ hk => ⟨hk.1.1, ⟨hk.2, ⟨hk.1.2.1, ⟨hk.1.2.2.1, hk.1.2.2.2⟩⟩⟩⟩)), (by (with_reducible repeat (first | apply Kd.S_alloc | apply Kd.S_drewN | apply Kd.S_drew)); exact Kd.S_mono HO_25.out (fun _ hk => ⟨hk.1.1, ⟨hk.2, ⟨hk.1.2.1, ⟨hk.1.2.2.1, ⟨hk.1.2.2.2.1, ⟨hk.1.2.2.2.2.1, ⟨hk.1.2.2.2.2.2.1, hk.1.2.2.2.2.2.2⟩⟩⟩⟩⟩⟩⟩)), (by (with_reducible repeat (first | apply Kd.S_alloc | apply Kd.S_drewN | apply Kd.S_drew)); exact Kd.S_mono HO_8.out (fun _ hk => ⟨hk.1.1, ⟨hk.2, ⟨hk.1.2.1, ⟨hk.1.2.2.1, ⟨hk.1.2.2.2.1, ⟨hk.1.2.2.2.2.1, ⟨hk.1.2.2.2.2.2.1, hk.1.2.2.2.2.2.2⟩⟩⟩⟩⟩⟩⟩)), (zq1 BK360), (zq1 BK361), (z44_2 HI349), (z44_3 HB)⟩)
                   ·
                    rintro ⟨v364, v376⟩ w33 ⟨hS_, h0_, h1_, h2_, h3_, h4_, h5_, h6_, h7_, h8_⟩
                    have HO365 : Aside0 (Kd.R k37 37 w33 w.heap.size (fun k_ => (w.heap.size ≤ k_) ∧ some k_ ≠ (v376 : Value).ownBlock ∧ k_ ≠ gb360 ∧ k_ ≠ gb361) v364 t363) := ⟨h1_⟩
                    have HO377 : Aside0 (Kd.R k37 37 w33 w.heap.size (fun k_ => (w.heap.size ≤ k_) ∧ some k_ ≠ (v364 : Value).ownBlock ∧ k_ ≠ gb360 ∧ k_ ≠ gb361) v376 y375) := ⟨h2_⟩
                    replace HL362_0 : Aside0 (Kd.V k37 37 w33 w.heap.size (fun k_ => (w.heap.size ≤ k_) ∧ some k_ ≠ (v364 : Value).ownBlock ∧ some k_ ≠ (v376 : Value).ownBlock ∧ some k_ ≠ (.slice (some ad362) x4_1.length co19 : Value).ownBlock ∧ some k_ ≠ (.slice Ao28 x8_2.length co28 : Value).ownBlock ∧ k_ ≠ gb349 ∧ k_ ≠ gb360 ∧ k_ ≠ gb361) (.slice A362_0 (rd_L4 x4_1 x27_2).length c362_0) (rd_L4 x4_1 x27_2)) := ⟨h0_⟩; replace HO_25 : Aside0 (Kd.S (Kd.slice 37 k37) 51 w33 w.heap.size (fun k_ => (w.heap.size ≤ k_) ∧ some k_ ≠ (v364 : Value).ownBlock ∧ some k_ ≠ (v376 : Value).ownBlock ∧ some k_ ≠ (.slice Ao28 x8_2.length co28 : Value).ownBlock ∧ k_ ≠ gb349 ∧ k_ ≠ gb360 ∧ k_ ≠ gb361) (.slice (some ad362) x4_1.length co19) x4_1) := ⟨h3_⟩; replace HO_8 : Aside0 (Kd.S (Kd.slice 37 k37) 51 w33 w.heap.size (fun k_ => (w.heap.size ≤ k_) ∧ some k_ ≠ (v364 : Value).ownBlock ∧ some k_ ≠ (v376 : Value).ownBlock ∧ some k_ ≠ (.slice (some ad362) x4_1.length co19 : Value).ownBlock ∧ k_ ≠ gb349 ∧ k_ ≠ gb360 ∧ k_ ≠ gb361) (.slice Ao28 x8_2.length co28) x8_2) := ⟨h4_⟩; replace BK360 : Aside0 (w33.heap[gb360]? = some (.cells #[.int .i64 t355, .int .i64 t356] 37 (0, 0))) := ⟨h5_⟩; replace BK361 : Aside0 (w33.heap[gb361]? = some (.cells #[.int .i64 t357, .int .i64 t358] 37 (0, 0))) := ⟨h6_⟩; replace HI349 : Aside0 (IsS27 w w33 gb349 t351 l0_1 l0_2) := ⟨h7_⟩; replace HB : Aside0 (Below w.heap.size w w33) := ⟨h8_⟩
                    clear HR362_0 h0_ h1_ h2_ h3_ h4_ h5_ h6_ h7_ h8_
                    have hHeld : w33.cell? ⟨gb360, 0, none⟩ = some (.int .i64 t355) ∧ w33.cell? ⟨gb360, 1, none⟩ = some (.int .i64 t356) ∧ w33.cell? ⟨gb361, 0, none⟩ = some (.int .i64 t357) ∧ w33.cell? ⟨gb361, 1, none⟩ = some (.int .i64 t358) := hS_
                    refine norm_ (a' := ?_) ?_ ?_
                    rotate_left
                    ·
                     simp only [putAll, Act.put, List.setIfInBounds_toArray, List.set_cons_zero, List.set_cons_succ]
                     rfl
                    refine one_ (i := 4) (N := some 35) #[true, true, true, true, true, false, true, false, true, true, false, false, false, false] rfl rfl (one_of HT_.out (by kernel_rfl)) (by decide) (fun K hK => ?_)
                    refine Kd.R_lit_step k37 _ 37 ?hg (N := 35) ?hd (xs := ([(⟨t355, t356⟩ : S37)] : List (S37))) (inner := [.int .i64 t355, .int .i64 t356]) (ok := fun _ => True) (okp := fun _ => True) ?hr ?hp (fun _ hk => hk) trivial (Below.refl _ _) (Nat.le_refl _) (by simp) ?_; (case hd => rfl); (case hg => rfl); (case hr => first | (go_simp; done) | (go_simp; rfl)); (case hp => exact (Reps.c2 (show Kd.M k37 _ _ _ (⟨t355, t356⟩ : S37) [.int .i64 t355, .int .i64 t356] from (k37_mkM _ _ _ (⟨t355, t356⟩ : S37) )) (Reps.none _ _)))
                    intro v367 w34 ho35 hb hg_ hnew_
                    clear hg_ hnew_
                    (first | rw [← Ny366.out] at ho35 | (simp only [Int.reduceToNat] at ho35; rw [← Ny366.out] at ho35))
                    have n0_ := Aside0.mk (Kd.S_elder' (by (with_reducible repeat (first | apply Kd.S_alloc | apply Kd.S_drewN | apply Kd.S_drew)); exact HO_8.out) (Kd.R_base ho35) hb)
                    have n1_ := Aside0.mk (Kd.S_elder' (by (with_reducible repeat (first | apply Kd.S_alloc | apply Kd.S_drewN | apply Kd.S_drew)); exact HO_25.out) (Kd.R_base ho35) hb)
                    have n2_ := Aside0.mk (Kd.V_elder' (by (with_reducible repeat (first | apply Kd.V_alloc | apply Kd.V_drewN | apply Kd.V_drew)); exact HL362_0.out) (Kd.R_base ho35) hb)
                    have n3_ := Aside0.mk (Kd.R_elder' (zq3 HO365) (Kd.R_base ho35) hb)
                    have n4_ := Aside0.mk (Kd.R_elder' (zq3 HO377) (Kd.R_base ho35) hb)
                    have HO368 := Aside0.mk (Kd.R_lower (Kd.R_newB (Kd.R_newB (Kd.R_new' (Kd.R_new' (Kd.R_newM (M := fun k_ => (w.heap.size ≤ k_)) ho35 (below_size (z44_3 HB)) (fun k_ h_ => h_)) (Kd.R_lt (zq3 HO365))) (Kd.R_lt (zq3 HO377))) (g := gb360) (o := .cells #[.int .i64 t355, .int .i64 t356] 37 (0, 0)) (zq1 BK360)) (g := gb361) (o := .cells #[.int .i64 t357, .int .i64 t358] 37 (0, 0)) (zq1 BK361)) (below_size (z44_3 HB)))
                    have n6_ := Aside0.mk (zbb BK360 hb)
                    have n7_ := Aside0.mk (zbb BK361 hb)
                    have n8_ := Aside0.mk (IsS27.below (z44_2 HI349) hb)
                    have n9_ := Aside0.mk (below_step (z44_3 HB) hb)
                    clear HO_8 HO_25 HL362_0 HO365 HO377 BK360 BK361 HI349 HB
                    have HO_8 := n0_; have HO_25 := n1_; have HL362_0 := n2_; have HO365 := n3_; have HO377 := n4_; have BK360 := n6_; have BK361 := n7_; have HI349 := n8_; have HB := n9_
                    clear n0_ n1_ n2_ n3_ n4_ n6_ n7_ n8_ n9_ hb ho35
                    refine hK.out _ _ ⟨zc BK360 0, zc BK360 1, zc BK361 0, zc BK361 1⟩ (fun hHeld => ?_)
                    clear hK K
                    refine norm_ (a' := ?_) ?_ ?_
                    rotate_left
                    ·
                     show Act.put _ (some 35) _ = _
                     simp only [Act.put, List.setIfInBounds_toArray, List.set_cons_zero, List.set_cons_succ, i64_w, i32_w]; rfl
                    exact norm_ zq4 (hJ2_4_9 (_, _, _) _ ⟨hHeld, (by (with_reducible repeat (first | apply Kd.V_alloc | apply Kd.V_drewN | apply Kd.V_drew)); exact Kd.V_mono HL362_0.out (fun _ hk => ⟨hk.1.1, ⟨hk.1.2.1, ⟨hk.2, ⟨hk.1.2.2.1, ⟨hk.1.2.2.2.1, ⟨hk.1.2.2.2.2.1, ⟨hk.1.2.2.2.2.2.1, ⟨hk.1.2.2.2.2.2.2.1, hk.1.2.2.2.2.2.2.2⟩⟩⟩⟩⟩⟩⟩⟩)), (by (with_reducible repeat (first | apply Kd.R_alloc | apply Kd.R_drewN | apply Kd.R_drew)); exact Kd.R_mono HO365.out (fun _ hk => ⟨hk.1.1, ⟨hk.2, ⟨hk.1.2.1, ⟨hk.1.2.2.1, hk.1.2.2.2⟩⟩⟩⟩)), (by (with_reducible repeat (first | apply Kd.R_alloc | apply Kd.R_drewN | apply Kd.R_drew)); exact Kd.R_mono HO368.out (fun _ hk => ⟨hk.1.1.1.1.1, ⟨hk.1.1.1.2, ⟨hk.1.1.2, ⟨hk.1.2, hk.2⟩⟩⟩⟩)), (by (with_reducible repeat (first | apply Kd.R_alloc | apply Kd.R_drewN | apply Kd.R_drew)); exact Kd.R_mono HO377.out (fun _ hk => ⟨hk.1.1, ⟨hk.1.2.1, ⟨hk.2, ⟨hk.1.2.2.1, hk.1.2.2.2⟩⟩⟩⟩)), (by (with_reducible repeat (first | apply Kd.S_alloc | apply Kd.S_drewN | apply Kd.S_drew)); exact Kd.S_mono HO_25.out (fun _ hk => ⟨hk.1.1, ⟨hk.1.2.1, ⟨hk.2, ⟨hk.1.2.2.1, ⟨hk.1.2.2.2.1, ⟨hk.1.2.2.2.2.1, ⟨hk.1.2.2.2.2.2.1, hk.1.2.2.2.2.2.2⟩⟩⟩⟩⟩⟩⟩)), (by (with_reducible repeat (first | apply Kd.S_alloc | apply Kd.S_drewN | apply Kd.S_drew)); exact Kd.S_mono HO_8.out (fun _ hk => ⟨hk.1.1, ⟨hk.1.2.1, ⟨hk.2, ⟨hk.1.2.2.1, ⟨hk.1.2.2.2.1, ⟨hk.1.2.2.2.2.1, ⟨hk.1.2.2.2.2.2.1, hk.1.2.2.2.2.2.2⟩⟩⟩⟩⟩⟩⟩)), (zq1 BK360), (zq1 BK361), (z44_2 HI349), (z44_3 HB)⟩)
                  ·
                   rintro ⟨v364, v367⟩ w33 ⟨hS_, h0_, h1_, h2_, h3_, h4_, h5_, h6_, h7_, h8_⟩
                   have HO365 : Aside0 (Kd.R k37 37 w33 w.heap.size (fun k_ => (w.heap.size ≤ k_) ∧ some k_ ≠ (v367 : Value).ownBlock ∧ k_ ≠ gb360 ∧ k_ ≠ gb361) v364 t363) := ⟨h1_⟩
                   have HO368 : Aside0 (Kd.R k37 37 w33 w.heap.size (fun k_ => (w.heap.size ≤ k_) ∧ some k_ ≠ (v364 : Value).ownBlock ∧ k_ ≠ gb360 ∧ k_ ≠ gb361) v367 y366) := ⟨h2_⟩
                   replace HL362_0 : Aside0 (Kd.V k37 37 w33 w.heap.size (fun k_ => (w.heap.size ≤ k_) ∧ some k_ ≠ (v364 : Value).ownBlock ∧ some k_ ≠ (v367 : Value).ownBlock ∧ some k_ ≠ (.slice (some ad362) x4_1.length co19 : Value).ownBlock ∧ some k_ ≠ (.slice Ao28 x8_2.length co28 : Value).ownBlock ∧ k_ ≠ gb349 ∧ k_ ≠ gb360 ∧ k_ ≠ gb361) (.slice A362_0 (rd_L4 x4_1 x27_2).length c362_0) (rd_L4 x4_1 x27_2)) := ⟨h0_⟩; replace HO_25 : Aside0 (Kd.S (Kd.slice 37 k37) 51 w33 w.heap.size (fun k_ => (w.heap.size ≤ k_) ∧ some k_ ≠ (v364 : Value).ownBlock ∧ some k_ ≠ (v367 : Value).ownBlock ∧ some k_ ≠ (.slice Ao28 x8_2.length co28 : Value).ownBlock ∧ k_ ≠ gb349 ∧ k_ ≠ gb360 ∧ k_ ≠ gb361) (.slice (some ad362) x4_1.length co19) x4_1) := ⟨h3_⟩; replace HO_8 : Aside0 (Kd.S (Kd.slice 37 k37) 51 w33 w.heap.size (fun k_ => (w.heap.size ≤ k_) ∧ some k_ ≠ (v364 : Value).ownBlock ∧ some k_ ≠ (v367 : Value).ownBlock ∧ some k_ ≠ (.slice (some ad362) x4_1.length co19 : Value).ownBlock ∧ k_ ≠ gb349 ∧ k_ ≠ gb360 ∧ k_ ≠ gb361) (.slice Ao28 x8_2.length co28) x8_2) := ⟨h4_⟩; replace BK360 : Aside0 (w33.heap[gb360]? = some (.cells #[.int .i64 t355, .int .i64 t356] 37 (0, 0))) := ⟨h5_⟩; replace BK361 : Aside0 (w33.heap[gb361]? = some (.cells #[.int .i64 t357, .int .i64 t358] 37 (0, 0))) := ⟨h6_⟩; replace HI349 : Aside0 (IsS27 w w33 gb349 t351 l0_1 l0_2) := ⟨h7_⟩; replace HB : Aside0 (Below w.heap.size w w33) := ⟨h8_⟩
                   clear HR362_0 h0_ h1_ h2_ h3_ h4_ h5_ h6_ h7_ h8_
                   have hHeld : w33.cell? ⟨gb360, 0, none⟩ = some (.int .i64 t355) ∧ w33.cell? ⟨gb360, 1, none⟩ = some (.int .i64 t356) ∧ w33.cell? ⟨gb361, 0, none⟩ = some (.int .i64 t357) ∧ w33.cell? ⟨gb361, 1, none⟩ = some (.int .i64 t358) := hS_
                   obtain ⟨Ao35, co35, eo35⟩ := Kd.R_slice HO368.out
                   (first | subst eo35 | (injection eo35 with f1_ f2_ f3_; have f4_ := f1_.symm; have f5_ := f3_.symm; clear f1_ f2_ f3_; subst f4_; subst f5_))
                   refine norm_ (a' := ?_) ?_ ?_
                   rotate_left
                   ·
                    simp only [putAll, Act.put, List.setIfInBounds_toArray, List.set_cons_zero, List.set_cons_succ]
                    rfl
                   refine two_ (i := 5) (j := 9) (Ni := some 36) (Nj := some 40) #[true, true, true, true, true, true, true, false, true, false, false, false, false, false] #[true, true, true, true, true, false, true, false, true, true, false, false, false, false] rfl rfl rfl rfl (two_of HT_.out (by kernel_rfl)) (by decide) (by decide) (fun K hK => ?_) (fun K hK => ?_)
                   ·
                    refine Kd.R_append_rows_step k37 (w0 := w) w.heap.size (by rfl) (.tmp 33) (.tmp 35) 51 37 (.agg #[(.int .i64 0), (.int .i64 0)]) 16 rfl Try.underlying51 info37 rfl (by decide) (by omega) v364 t363 y366 _ _ _ (fun k_ => (w.heap.size ≤ k_) ∧ some k_ ≠ (.slice Ao35 y366.length co35 : Value).ownBlock ∧ k_ ≠ gb360 ∧ k_ ≠ gb361) (fun _ => False) rfl rfl ?aO ?aR (fun _ _ h => h) (fun _ h => h.elim) ?aF ?aB ?aS ?aL ?_
                    (case aR => repeat (first | exact (Kd.R_reads' HO368.out).2.2 | (with_reducible refine Kd.C_alloc ?_ _) | (with_reducible refine Kd.C_drewN ?_ _) | (with_reducible refine Kd.C_drew ?_)))
                    (case aB => exact (z44_3 HB))
                    (case aF => exact (fun k_ hk => ⟨(Nat.le_trans (below_size (z44_3 HB)) hk), Kd.fresh' (Kd.R_lt (zq3 HO368)) k_ hk, Kd.freshB (g := gb360) (o := .cells #[.int .i64 t355, .int .i64 t356] 37 (0, 0)) (zq1 BK360) k_ hk, Kd.freshB (g := gb361) (o := .cells #[.int .i64 t357, .int .i64 t358] 37 (0, 0)) (zq1 BK361) k_ hk⟩))
                    (case aO => exact (zq3 HO365))
                    (case aS => exact (below_size (z44_3 HB)))
                    (case aL => have := LMc24.out; omega)
                    intro v370 w34 ho hb hg hat
                    rw [← Ny369.out] at ho
                    have n0_ := Aside0.mk (Kd.S_afterv (ok := (fun k_ => (w.heap.size ≤ k_) ∧ some k_ ≠ (.slice (some ad362) x4_1.length co19 : Value).ownBlock ∧ some k_ ≠ (.slice Ao35 y366.length co35 : Value).ownBlock ∧ k_ ≠ gb349 ∧ k_ ≠ gb360 ∧ k_ ≠ gb361)) (by (with_reducible repeat (first | apply Kd.S_alloc | apply Kd.S_drewN | apply Kd.S_drew)); exact Kd.S_mono HO_8.out (fun _ hk => ⟨⟨hk.1, ⟨hk.2.2.2.1, ⟨hk.2.2.1, ⟨hk.2.2.2.2.1, ⟨hk.2.2.2.2.2.1, hk.2.2.2.2.2.2⟩⟩⟩⟩⟩, hk.2.1⟩)) hg hat)
                    have n1_ := Aside0.mk (Kd.S_afterv (ok := (fun k_ => (w.heap.size ≤ k_) ∧ some k_ ≠ (.slice Ao28 x8_2.length co28 : Value).ownBlock ∧ some k_ ≠ (.slice Ao35 y366.length co35 : Value).ownBlock ∧ k_ ≠ gb349 ∧ k_ ≠ gb360 ∧ k_ ≠ gb361)) (by (with_reducible repeat (first | apply Kd.S_alloc | apply Kd.S_drewN | apply Kd.S_drew)); exact Kd.S_mono HO_25.out (fun _ hk => ⟨⟨hk.1, ⟨hk.2.2.2.1, ⟨hk.2.2.1, ⟨hk.2.2.2.2.1, ⟨hk.2.2.2.2.2.1, hk.2.2.2.2.2.2⟩⟩⟩⟩⟩, hk.2.1⟩)) hg hat)
                    have n2_ := Aside0.mk (blk_grown (g := gb360) (o := .cells #[.int .i64 t355, .int .i64 t356] 37 (0, 0)) (zq1 BK360) hg (Kd.R_away HO365.out (fun _ hk => hk.2.2.1)))
                    have n3_ := Aside0.mk (blk_grown (g := gb361) (o := .cells #[.int .i64 t357, .int .i64 t358] 37 (0, 0)) (zq1 BK361) hg (Kd.R_away HO365.out (fun _ hk => hk.2.2.2)))
                    have n4_ := Aside0.mk (IsS27.grown (z44_2 HI349) hg (IsS27.own_ne HI349.out HO365.out (by decide)))
                    have n5_ := Aside0.mk (Kd.V_afterv (ok := (fun k_ => (w.heap.size ≤ k_) ∧ some k_ ≠ (.slice Ao28 x8_2.length co28 : Value).ownBlock ∧ some k_ ≠ (.slice (some ad362) x4_1.length co19 : Value).ownBlock ∧ some k_ ≠ (.slice Ao35 y366.length co35 : Value).ownBlock ∧ k_ ≠ gb349 ∧ k_ ≠ gb360 ∧ k_ ≠ gb361)) (by (with_reducible repeat (first | apply Kd.V_alloc | apply Kd.V_drewN | apply Kd.V_drew)); exact Kd.V_mono HL362_0.out (fun _ hk => ⟨⟨hk.1, ⟨hk.2.2.2.2.1, ⟨hk.2.2.2.1, ⟨hk.2.2.1, ⟨hk.2.2.2.2.2.1, ⟨hk.2.2.2.2.2.2.1, hk.2.2.2.2.2.2.2⟩⟩⟩⟩⟩⟩, hk.2.1⟩)) hg hat)
                    have n6_ := Aside0.mk (Kd.R_after (ok := (fun k_ => (w.heap.size ≤ k_) ∧ k_ ≠ gb360 ∧ k_ ≠ gb361)) (by (with_reducible repeat (first | apply Kd.R_alloc | apply Kd.R_drewN | apply Kd.R_drew)); exact Kd.R_mono HO368.out (fun _ hk => ⟨⟨hk.1, ⟨hk.2.2.1, hk.2.2.2⟩⟩, hk.2.1⟩)) hg hat)
                    have n7_ := Aside0.mk (hb)
                    have HO371 := Aside0.mk (ho)
                    clear HO_8 HO_25 BK360 BK361 HI349 HL362_0 HO368 HB HO365
                    have HO_8 := n0_; have HO_25 := n1_; have BK360 := n2_; have BK361 := n3_; have HI349 := n4_; have HL362_0 := n5_; have HO368 := n6_; have HB := n7_
                    clear n0_ n1_ n2_ n3_ n4_ n5_ n6_ n7_ ho hb hg hat
                    refine hK.out _ _ ⟨zc BK360 0, zc BK360 1, zc BK361 0, zc BK361 1⟩ (fun hHeld => ?_)
                    clear hK K
                    refine norm_ (a' := ?_) ?_ ?_
                    rotate_left
                    ·
                     show Act.put _ (some 36) _ = _
                     simp only [Act.put, List.setIfInBounds_toArray, List.set_cons_zero, List.set_cons_succ, i64_w, i32_w]; rfl
                    exact norm_ zq4 (hJ2_4_5 (_, _, _) _ ⟨hHeld, (by (with_reducible repeat (first | apply Kd.V_alloc | apply Kd.V_drewN | apply Kd.V_drew)); exact Kd.V_mono HL362_0.out (fun _ hk => ⟨hk.1.1, ⟨hk.1.2.2.2.1, ⟨hk.2, ⟨hk.1.2.2.1, ⟨hk.1.2.1, ⟨hk.1.2.2.2.2.1, ⟨hk.1.2.2.2.2.2.1, hk.1.2.2.2.2.2.2⟩⟩⟩⟩⟩⟩⟩)), (by (with_reducible repeat (first | apply Kd.R_alloc | apply Kd.R_drewN | apply Kd.R_drew)); exact Kd.R_mono HO368.out (fun _ hk => ⟨hk.1.1, ⟨hk.2, ⟨hk.1.2.1, hk.1.2.2⟩⟩⟩)), (zq3 HO371), (by (with_reducible repeat (first | apply Kd.S_alloc | apply Kd.S_drewN | apply Kd.S_drew)); exact Kd.S_mono HO_25.out (fun _ hk => ⟨hk.1.1, ⟨hk.1.2.2.1, ⟨hk.2, ⟨hk.1.2.1, ⟨hk.1.2.2.2.1, ⟨hk.1.2.2.2.2.1, hk.1.2.2.2.2.2⟩⟩⟩⟩⟩⟩)), (by (with_reducible repeat (first | apply Kd.S_alloc | apply Kd.S_drewN | apply Kd.S_drew)); exact Kd.S_mono HO_8.out (fun _ hk => ⟨hk.1.1, ⟨hk.1.2.2.1, ⟨hk.2, ⟨hk.1.2.1, ⟨hk.1.2.2.2.1, ⟨hk.1.2.2.2.2.1, hk.1.2.2.2.2.2⟩⟩⟩⟩⟩⟩)), (zq1 BK360), (zq1 BK361), (z44_2 HI349), (z44_3 HB)⟩)
                   ·
                    refine Kd.R_lit_step k37 _ 37 ?hg (N := 40) ?hd (xs := ([(⟨t357, t358⟩ : S37)] : List (S37))) (inner := [.int .i64 t357, .int .i64 t358]) (ok := fun _ => True) (okp := fun _ => True) ?hr ?hp (fun _ hk => hk) trivial (Below.refl _ _) (Nat.le_refl _) (by simp) ?_; (case hd => rfl); (case hg => rfl); (case hr => first | (go_simp; done) | (go_simp; rfl)); (case hp => exact (Reps.c2 (show Kd.M k37 _ _ _ (⟨t357, t358⟩ : S37) [.int .i64 t357, .int .i64 t358] from (k37_mkM _ _ _ (⟨t357, t358⟩ : S37) )) (Reps.none _ _)))
                    intro v376 w34 ho35 hb hg_ hnew_
                    clear hg_ hnew_
                    (first | rw [← Ny375.out] at ho35 | (simp only [Int.reduceToNat] at ho35; rw [← Ny375.out] at ho35))
                    have n0_ := Aside0.mk (Kd.S_elder' (by (with_reducible repeat (first | apply Kd.S_alloc | apply Kd.S_drewN | apply Kd.S_drew)); exact HO_8.out) (Kd.R_base ho35) hb)
                    have n1_ := Aside0.mk (Kd.S_elder' (by (with_reducible repeat (first | apply Kd.S_alloc | apply Kd.S_drewN | apply Kd.S_drew)); exact HO_25.out) (Kd.R_base ho35) hb)
                    have n2_ := Aside0.mk (Kd.V_elder' (by (with_reducible repeat (first | apply Kd.V_alloc | apply Kd.V_drewN | apply Kd.V_drew)); exact HL362_0.out) (Kd.R_base ho35) hb)
                    have n3_ := Aside0.mk (Kd.R_elder' (zq3 HO365) (Kd.R_base ho35) hb)
                    have n4_ := Aside0.mk (Kd.R_elder' (zq3 HO368) (Kd.R_base ho35) hb)
                    have HO377 := Aside0.mk (Kd.R_lower (Kd.R_newB (Kd.R_newB (Kd.R_new' (Kd.R_new' (Kd.R_newM (M := fun k_ => (w.heap.size ≤ k_)) ho35 (below_size (z44_3 HB)) (fun k_ h_ => h_)) (Kd.R_lt (zq3 HO365))) (Kd.R_lt (zq3 HO368))) (g := gb360) (o := .cells #[.int .i64 t355, .int .i64 t356] 37 (0, 0)) (zq1 BK360)) (g := gb361) (o := .cells #[.int .i64 t357, .int .i64 t358] 37 (0, 0)) (zq1 BK361)) (below_size (z44_3 HB)))
                    have n6_ := Aside0.mk (zbb BK360 hb)
                    have n7_ := Aside0.mk (zbb BK361 hb)
                    have n8_ := Aside0.mk (IsS27.below (z44_2 HI349) hb)
                    have n9_ := Aside0.mk (below_step (z44_3 HB) hb)
                    clear HO_8 HO_25 HL362_0 HO365 HO368 BK360 BK361 HI349 HB
                    have HO_8 := n0_; have HO_25 := n1_; have HL362_0 := n2_; have HO365 := n3_; have HO368 := n4_; have BK360 := n6_; have BK361 := n7_; have HI349 := n8_; have HB := n9_
                    clear n0_ n1_ n2_ n3_ n4_ n6_ n7_ n8_ n9_ hb ho35
                    refine hK.out _ _ ⟨zc BK360 0, zc BK360 1, zc BK361 0, zc BK361 1⟩ (fun hHeld => ?_)
                    clear hK K
                    refine norm_ (a' := ?_) ?_ ?_
                    rotate_left
                    ·
                     show Act.put _ (some 40) _ = _
                     simp only [Act.put, List.setIfInBounds_toArray, List.set_cons_zero, List.set_cons_succ, i64_w, i32_w]; rfl
                    exact norm_ zq4 (hJ2_4_9 (_, _, _) _ ⟨hHeld, (by (with_reducible repeat (first | apply Kd.V_alloc | apply Kd.V_drewN | apply Kd.V_drew)); exact Kd.V_mono HL362_0.out (fun _ hk => ⟨hk.1.1, ⟨hk.1.2.1, ⟨hk.1.2.2.1, ⟨hk.2, ⟨hk.1.2.2.2.1, ⟨hk.1.2.2.2.2.1, ⟨hk.1.2.2.2.2.2.1, ⟨hk.1.2.2.2.2.2.2.1, hk.1.2.2.2.2.2.2.2⟩⟩⟩⟩⟩⟩⟩⟩)), (by (with_reducible repeat (first | apply Kd.R_alloc | apply Kd.R_drewN | apply Kd.R_drew)); exact Kd.R_mono HO365.out (fun _ hk => ⟨hk.1.1, ⟨hk.1.2.1, ⟨hk.2, ⟨hk.1.2.2.1, hk.1.2.2.2⟩⟩⟩⟩)), (by (with_reducible repeat (first | apply Kd.R_alloc | apply Kd.R_drewN | apply Kd.R_drew)); exact Kd.R_mono HO368.out (fun _ hk => ⟨hk.1.1, ⟨hk.1.2.1, ⟨hk.2, ⟨hk.1.2.2.1, hk.1.2.2.2⟩⟩⟩⟩)), (by (with_reducible repeat (first | apply Kd.R_alloc | apply Kd.R_drewN | apply Kd.R_drew)); exact Kd.R_mono HO377.out (fun _ hk => ⟨hk.1.1.1.1.1, ⟨hk.1.1.1.2, ⟨hk.1.1.2, ⟨hk.1.2, hk.2⟩⟩⟩⟩)), (by (with_reducible repeat (first | apply Kd.S_alloc | apply Kd.S_drewN | apply Kd.S_drew)); exact Kd.S_mono HO_25.out (fun _ hk => ⟨hk.1.1, ⟨hk.1.2.1, ⟨hk.1.2.2.1, ⟨hk.2, ⟨hk.1.2.2.2.1, ⟨hk.1.2.2.2.2.1, ⟨hk.1.2.2.2.2.2.1, hk.1.2.2.2.2.2.2⟩⟩⟩⟩⟩⟩⟩)), (by (with_reducible repeat (first | apply Kd.S_alloc | apply Kd.S_drewN | apply Kd.S_drew)); exact Kd.S_mono HO_8.out (fun _ hk => ⟨hk.1.1, ⟨hk.1.2.1, ⟨hk.1.2.2.1, ⟨hk.2, ⟨hk.1.2.2.2.1, ⟨hk.1.2.2.2.2.1, ⟨hk.1.2.2.2.2.2.1, hk.1.2.2.2.2.2.2⟩⟩⟩⟩⟩⟩⟩)), (zq1 BK360), (zq1 BK361), (z44_2 HI349), (z44_3 HB)⟩)
                 ·
                  rintro ⟨v364, v367, v376⟩ w35 ⟨hS_, h0_, h1_, h2_, h3_, h4_, h5_, h6_, h7_, h8_, h9_⟩
                  have HO365 : Aside0 (Kd.R k37 37 w35 w.heap.size (fun k_ => (w.heap.size ≤ k_) ∧ some k_ ≠ (v367 : Value).ownBlock ∧ some k_ ≠ (v376 : Value).ownBlock ∧ k_ ≠ gb360 ∧ k_ ≠ gb361) v364 t363) := ⟨h1_⟩
                  have HO368 : Aside0 (Kd.R k37 37 w35 w.heap.size (fun k_ => (w.heap.size ≤ k_) ∧ some k_ ≠ (v364 : Value).ownBlock ∧ some k_ ≠ (v376 : Value).ownBlock ∧ k_ ≠ gb360 ∧ k_ ≠ gb361) v367 y366) := ⟨h2_⟩
                  have HO377 : Aside0 (Kd.R k37 37 w35 w.heap.size (fun k_ => (w.heap.size ≤ k_) ∧ some k_ ≠ (v364 : Value).ownBlock ∧ some k_ ≠ (v367 : Value).ownBlock ∧ k_ ≠ gb360 ∧ k_ ≠ gb361) v376 y375) := ⟨h3_⟩
                  replace HL362_0 : Aside0 (Kd.V k37 37 w35 w.heap.size (fun k_ => (w.heap.size ≤ k_) ∧ some k_ ≠ (v364 : Value).ownBlock ∧ some k_ ≠ (v367 : Value).ownBlock ∧ some k_ ≠ (v376 : Value).ownBlock ∧ some k_ ≠ (.slice (some ad362) x4_1.length co19 : Value).ownBlock ∧ some k_ ≠ (.slice Ao28 x8_2.length co28 : Value).ownBlock ∧ k_ ≠ gb349 ∧ k_ ≠ gb360 ∧ k_ ≠ gb361) (.slice A362_0 (rd_L4 x4_1 x27_2).length c362_0) (rd_L4 x4_1 x27_2)) := ⟨h0_⟩; replace HO_25 : Aside0 (Kd.S (Kd.slice 37 k37) 51 w35 w.heap.size (fun k_ => (w.heap.size ≤ k_) ∧ some k_ ≠ (v364 : Value).ownBlock ∧ some k_ ≠ (v367 : Value).ownBlock ∧ some k_ ≠ (v376 : Value).ownBlock ∧ some k_ ≠ (.slice Ao28 x8_2.length co28 : Value).ownBlock ∧ k_ ≠ gb349 ∧ k_ ≠ gb360 ∧ k_ ≠ gb361) (.slice (some ad362) x4_1.length co19) x4_1) := ⟨h4_⟩; replace HO_8 : Aside0 (Kd.S (Kd.slice 37 k37) 51 w35 w.heap.size (fun k_ => (w.heap.size ≤ k_) ∧ some k_ ≠ (v364 : Value).ownBlock ∧ some k_ ≠ (v367 : Value).ownBlock ∧ some k_ ≠ (v376 : Value).ownBlock ∧ some k_ ≠ (.slice (some ad362) x4_1.length co19 : Value).ownBlock ∧ k_ ≠ gb349 ∧ k_ ≠ gb360 ∧ k_ ≠ gb361) (.slice Ao28 x8_2.length co28) x8_2) := ⟨h5_⟩; replace BK360 : Aside0 (w35.heap[gb360]? = some (.cells #[.int .i64 t355, .int .i64 t356] 37 (0, 0))) := ⟨h6_⟩; replace BK361 : Aside0 (w35.heap[gb361]? = some (.cells #[.int .i64 t357, .int .i64 t358] 37 (0, 0))) := ⟨h7_⟩; replace HI349 : Aside0 (IsS27 w w35 gb349 t351 l0_1 l0_2) := ⟨h8_⟩; replace HB : Aside0 (Below w.heap.size w w35) := ⟨h9_⟩
                  clear HR362_0 h0_ h1_ h2_ h3_ h4_ h5_ h6_ h7_ h8_ h9_
                  have hHeld : w35.cell? ⟨gb360, 0, none⟩ = some (.int .i64 t355) ∧ w35.cell? ⟨gb360, 1, none⟩ = some (.int .i64 t356) ∧ w35.cell? ⟨gb361, 0, none⟩ = some (.int .i64 t357) ∧ w35.cell? ⟨gb361, 1, none⟩ = some (.int .i64 t358) := hS_
                  obtain ⟨Ao37, co37, eo37⟩ := Kd.R_slice HO368.out
                  (first | subst eo37 | (injection eo37 with f1_ f2_ f3_; have f4_ := f1_.symm; have f5_ := f3_.symm; clear f1_ f2_ f3_; subst f4_; subst f5_))
                  refine norm_ (a' := ?_) ?_ ?_
                  rotate_left
                  ·
                   simp only [putAll, Act.put, List.setIfInBounds_toArray, List.set_cons_zero, List.set_cons_succ]
                   rfl
                  refine one_ (i := 5) (N := some 36) #[true, true, true, true, true, true, true, false, true, true, false, false, false, false] rfl rfl (one_of HT_.out (by kernel_rfl)) (by decide) (fun K hK => ?_)
                  refine Kd.R_append_rows_step k37 (w0 := w) w.heap.size (by rfl) (.tmp 33) (.tmp 35) 51 37 (.agg #[(.int .i64 0), (.int .i64 0)]) 16 rfl Try.underlying51 info37 rfl (by decide) (by omega) v364 t363 y366 _ _ _ (fun k_ => (w.heap.size ≤ k_) ∧ some k_ ≠ (.slice Ao37 y366.length co37 : Value).ownBlock ∧ some k_ ≠ (v376 : Value).ownBlock ∧ k_ ≠ gb360 ∧ k_ ≠ gb361) (fun _ => False) rfl rfl ?aO ?aR (fun _ _ h => h) (fun _ h => h.elim) ?aF ?aB ?aS ?aL ?_
                  (case aR => repeat (first | exact (Kd.R_reads' HO368.out).2.2 | (with_reducible refine Kd.C_alloc ?_ _) | (with_reducible refine Kd.C_drewN ?_ _) | (with_reducible refine Kd.C_drew ?_)))
                  (case aB => exact (z44_3 HB))
                  (case aF => exact (fun k_ hk => ⟨(Nat.le_trans (below_size (z44_3 HB)) hk), Kd.fresh' (Kd.R_lt (zq3 HO368)) k_ hk, Kd.fresh' (Kd.R_lt (zq3 HO377)) k_ hk, Kd.freshB (g := gb360) (o := .cells #[.int .i64 t355, .int .i64 t356] 37 (0, 0)) (zq1 BK360) k_ hk, Kd.freshB (g := gb361) (o := .cells #[.int .i64 t357, .int .i64 t358] 37 (0, 0)) (zq1 BK361) k_ hk⟩))
                  (case aO => exact (zq3 HO365))
                  (case aS => exact (below_size (z44_3 HB)))
                  (case aL => have := LMc24.out; omega)
                  intro v370 w36 ho hb hg hat
                  rw [← Ny369.out] at ho
                  have n0_ := Aside0.mk (Kd.S_afterv (ok := (fun k_ => (w.heap.size ≤ k_) ∧ some k_ ≠ (.slice (some ad362) x4_1.length co19 : Value).ownBlock ∧ some k_ ≠ (.slice Ao37 y366.length co37 : Value).ownBlock ∧ some k_ ≠ (v376 : Value).ownBlock ∧ k_ ≠ gb349 ∧ k_ ≠ gb360 ∧ k_ ≠ gb361)) (by (with_reducible repeat (first | apply Kd.S_alloc | apply Kd.S_drewN | apply Kd.S_drew)); exact Kd.S_mono HO_8.out (fun _ hk => ⟨⟨hk.1, ⟨hk.2.2.2.2.1, ⟨hk.2.2.1, ⟨hk.2.2.2.1, ⟨hk.2.2.2.2.2.1, ⟨hk.2.2.2.2.2.2.1, hk.2.2.2.2.2.2.2⟩⟩⟩⟩⟩⟩, hk.2.1⟩)) hg hat)
                  have n1_ := Aside0.mk (Kd.S_afterv (ok := (fun k_ => (w.heap.size ≤ k_) ∧ some k_ ≠ (.slice Ao28 x8_2.length co28 : Value).ownBlock ∧ some k_ ≠ (.slice Ao37 y366.length co37 : Value).ownBlock ∧ some k_ ≠ (v376 : Value).ownBlock ∧ k_ ≠ gb349 ∧ k_ ≠ gb360 ∧ k_ ≠ gb361)) (by (with_reducible repeat (first | apply Kd.S_alloc | apply Kd.S_drewN | apply Kd.S_drew)); exact Kd.S_mono HO_25.out (fun _ hk => ⟨⟨hk.1, ⟨hk.2.2.2.2.1, ⟨hk.2.2.1, ⟨hk.2.2.2.1, ⟨hk.2.2.2.2.2.1, ⟨hk.2.2.2.2.2.2.1, hk.2.2.2.2.2.2.2⟩⟩⟩⟩⟩⟩, hk.2.1⟩)) hg hat)
                  have n2_ := Aside0.mk (blk_grown (g := gb360) (o := .cells #[.int .i64 t355, .int .i64 t356] 37 (0, 0)) (zq1 BK360) hg (Kd.R_away HO365.out (fun _ hk => hk.2.2.2.1)))
                  have n3_ := Aside0.mk (blk_grown (g := gb361) (o := .cells #[.int .i64 t357, .int .i64 t358] 37 (0, 0)) (zq1 BK361) hg (Kd.R_away HO365.out (fun _ hk => hk.2.2.2.2)))
                  have n4_ := Aside0.mk (IsS27.grown (z44_2 HI349) hg (IsS27.own_ne HI349.out HO365.out (by decide)))
                  have n5_ := Aside0.mk (Kd.V_afterv (ok := (fun k_ => (w.heap.size ≤ k_) ∧ some k_ ≠ (.slice Ao28 x8_2.length co28 : Value).ownBlock ∧ some k_ ≠ (.slice (some ad362) x4_1.length co19 : Value).ownBlock ∧ some k_ ≠ (.slice Ao37 y366.length co37 : Value).ownBlock ∧ some k_ ≠ (v376 : Value).ownBlock ∧ k_ ≠ gb349 ∧ k_ ≠ gb360 ∧ k_ ≠ gb361)) (by (with_reducible repeat (first | apply Kd.V_alloc | apply Kd.V_drewN | apply Kd.V_drew)); exact Kd.V_mono HL362_0.out (fun _ hk => ⟨⟨hk.1, ⟨hk.2.2.2.2.2.1, ⟨hk.2.2.2.2.1, ⟨hk.2.2.1, ⟨hk.2.2.2.1, ⟨hk.2.2.2.2.2.2.1, ⟨hk.2.2.2.2.2.2.2.1, hk.2.2.2.2.2.2.2.2⟩⟩⟩⟩⟩⟩⟩, hk.2.1⟩)) hg hat)
                  have n6_ := Aside0.mk (Kd.R_after (ok := (fun k_ => (w.heap.size ≤ k_) ∧ some k_ ≠ (v376 : Value).ownBlock ∧ k_ ≠ gb360 ∧ k_ ≠ gb361)) (by (with_reducible repeat (first | apply Kd.R_alloc | apply Kd.R_drewN | apply Kd.R_drew)); exact Kd.R_mono HO368.out (fun _ hk => ⟨⟨hk.1, ⟨hk.2.2.1, ⟨hk.2.2.2.1, hk.2.2.2.2⟩⟩⟩, hk.2.1⟩)) hg hat)
                  have n7_ := Aside0.mk (Kd.R_after (ok := (fun k_ => (w.heap.size ≤ k_) ∧ some k_ ≠ (.slice Ao37 y366.length co37 : Value).ownBlock ∧ k_ ≠ gb360 ∧ k_ ≠ gb361)) (by (with_reducible repeat (first | apply Kd.R_alloc | apply Kd.R_drewN | apply Kd.R_drew)); exact Kd.R_mono HO377.out (fun _ hk => ⟨⟨hk.1, ⟨hk.2.2.1, ⟨hk.2.2.2.1, hk.2.2.2.2⟩⟩⟩, hk.2.1⟩)) hg hat)
                  have n8_ := Aside0.mk (hb)
                  have HO371 := Aside0.mk (ho)
                  clear HO_8 HO_25 BK360 BK361 HI349 HL362_0 HO368 HO377 HB HO365
                  have HO_8 := n0_; have HO_25 := n1_; have BK360 := n2_; have BK361 := n3_; have HI349 := n4_; have HL362_0 := n5_; have HO368 := n6_; have HO377 := n7_; have HB := n8_
                  clear n0_ n1_ n2_ n3_ n4_ n5_ n6_ n7_ n8_ ho hb hg hat
                  refine hK.out _ _ ⟨zc BK360 0, zc BK360 1, zc BK361 0, zc BK361 1⟩ (fun hHeld => ?_)
                  clear hK K
                  refine norm_ (a' := ?_) ?_ ?_
                  rotate_left
                  ·
                   show Act.put _ (some 36) _ = _
                   simp only [Act.put, List.setIfInBounds_toArray, List.set_cons_zero, List.set_cons_succ, i64_w, i32_w]; rfl
                  exact norm_ zq4 (hJ2_4_5_9 (_, _, _, _) _ ⟨hHeld, (by (with_reducible repeat (first | apply Kd.V_alloc | apply Kd.V_drewN | apply Kd.V_drew)); exact Kd.V_mono HL362_0.out (fun _ hk => ⟨hk.1.1, ⟨hk.1.2.2.2.1, ⟨hk.2, ⟨hk.1.2.2.2.2.1, ⟨hk.1.2.2.1, ⟨hk.1.2.1, ⟨hk.1.2.2.2.2.2.1, ⟨hk.1.2.2.2.2.2.2.1, hk.1.2.2.2.2.2.2.2⟩⟩⟩⟩⟩⟩⟩⟩)), (by (with_reducible repeat (first | apply Kd.R_alloc | apply Kd.R_drewN | apply Kd.R_drew)); exact Kd.R_mono HO368.out (fun _ hk => ⟨hk.1.1, ⟨hk.2, ⟨hk.1.2.1, ⟨hk.1.2.2.1, hk.1.2.2.2⟩⟩⟩⟩)), (zq3 HO371), (by (with_reducible repeat (first | apply Kd.R_alloc | apply Kd.R_drewN | apply Kd.R_drew)); exact Kd.R_mono HO377.out (fun _ hk => ⟨hk.1.1, ⟨hk.1.2.1, ⟨hk.2, ⟨hk.1.2.2.1, hk.1.2.2.2⟩⟩⟩⟩)), (by (with_reducible repeat (first | apply Kd.S_alloc | apply Kd.S_drewN | apply Kd.S_drew)); exact Kd.S_mono HO_25.out (fun _ hk => ⟨hk.1.1, ⟨hk.1.2.2.1, ⟨hk.2, ⟨hk.1.2.2.2.1, ⟨hk.1.2.1, ⟨hk.1.2.2.2.2.1, ⟨hk.1.2.2.2.2.2.1, hk.1.2.2.2.2.2.2⟩⟩⟩⟩⟩⟩⟩)), (by (with_reducible repeat (first | apply Kd.S_alloc | apply Kd.S_drewN | apply Kd.S_drew)); exact Kd.S_mono HO_8.out (fun _ hk => ⟨hk.1.1, ⟨hk.1.2.2.1, ⟨hk.2, ⟨hk.1.2.2.2.1, ⟨hk.1.2.1, ⟨hk.1.2.2.2.2.1, ⟨hk.1.2.2.2.2.2.1, hk.1.2.2.2.2.2.2⟩⟩⟩⟩⟩⟩⟩)), (zq1 BK360), (zq1 BK361), (z44_2 HI349), (z44_3 HB)⟩)
                ·
                 rintro ⟨v364, v367, v370⟩ w35 ⟨hS_, h0_, h1_, h2_, h3_, h4_, h5_, h6_, h7_, h8_⟩
                 have HO368 : Aside0 (Kd.R k37 37 w35 w.heap.size (fun k_ => (w.heap.size ≤ k_) ∧ some k_ ≠ (v370 : Value).ownBlock ∧ k_ ≠ gb360 ∧ k_ ≠ gb361) v367 y366) := ⟨h1_⟩
                 have HO371 : Aside0 (Kd.R k37 37 w35 w.heap.size (fun k_ => (w.heap.size ≤ k_) ∧ some k_ ≠ (v367 : Value).ownBlock ∧ k_ ≠ gb360 ∧ k_ ≠ gb361) v370 y369) := ⟨h2_⟩
                 replace HL362_0 : Aside0 (Kd.V k37 37 w35 w.heap.size (fun k_ => (w.heap.size ≤ k_) ∧ some k_ ≠ (v367 : Value).ownBlock ∧ some k_ ≠ (v370 : Value).ownBlock ∧ some k_ ≠ (.slice (some ad362) x4_1.length co19 : Value).ownBlock ∧ some k_ ≠ (.slice Ao28 x8_2.length co28 : Value).ownBlock ∧ k_ ≠ gb349 ∧ k_ ≠ gb360 ∧ k_ ≠ gb361) (.slice A362_0 (rd_L4 x4_1 x27_2).length c362_0) (rd_L4 x4_1 x27_2)) := ⟨h0_⟩; replace HO_25 : Aside0 (Kd.S (Kd.slice 37 k37) 51 w35 w.heap.size (fun k_ => (w.heap.size ≤ k_) ∧ some k_ ≠ (v367 : Value).ownBlock ∧ some k_ ≠ (v370 : Value).ownBlock ∧ some k_ ≠ (.slice Ao28 x8_2.length co28 : Value).ownBlock ∧ k_ ≠ gb349 ∧ k_ ≠ gb360 ∧ k_ ≠ gb361) (.slice (some ad362) x4_1.length co19) x4_1) := ⟨h3_⟩; replace HO_8 : Aside0 (Kd.S (Kd.slice 37 k37) 51 w35 w.heap.size (fun k_ => (w.heap.size ≤ k_) ∧ some k_ ≠ (v367 : Value).ownBlock ∧ some k_ ≠ (v370 : Value).ownBlock ∧ some k_ ≠ (.slice (some ad362) x4_1.length co19 : Value).ownBlock ∧ k_ ≠ gb349 ∧ k_ ≠ gb360 ∧ k_ ≠ gb361) (.slice Ao28 x8_2.length co28) x8_2) := ⟨h4_⟩; replace BK360 : Aside0 (w35.heap[gb360]? = some (.cells #[.int .i64 t355, .int .i64 t356] 37 (0, 0))) := ⟨h5_⟩; replace BK361 : Aside0 (w35.heap[gb361]? = some (.cells #[.int .i64 t357, .int .i64 t358] 37 (0, 0))) := ⟨h6_⟩; replace HI349 : Aside0 (IsS27 w w35 gb349 t351 l0_1 l0_2) := ⟨h7_⟩; replace HB : Aside0 (Below w.heap.size w w35) := ⟨h8_⟩
                 clear HR362_0 h0_ h1_ h2_ h3_ h4_ h5_ h6_ h7_ h8_
                 have hHeld : w35.cell? ⟨gb360, 0, none⟩ = some (.int .i64 t355) ∧ w35.cell? ⟨gb360, 1, none⟩ = some (.int .i64 t356) ∧ w35.cell? ⟨gb361, 0, none⟩ = some (.int .i64 t357) ∧ w35.cell? ⟨gb361, 1, none⟩ = some (.int .i64 t358) := hS_
                 refine norm_ (a' := ?_) ?_ ?_
                 rotate_left
                 ·
                  simp only [putAll, Act.put, List.setIfInBounds_toArray, List.set_cons_zero, List.set_cons_succ]
                  rfl
                 refine two_ (i := 7) (j := 9) (Ni := some 38) (Nj := some 40) #[true, true, true, true, true, true, true, true, true, false, false, false, false, false] #[true, true, true, true, true, true, true, false, true, true, false, false, false, false] rfl rfl rfl rfl (two_of HT_.out (by kernel_rfl)) (by decide) (by decide) (fun K hK => ?_) (fun K hK => ?_)
                 ·
                  refine goes_ Try.func86 (by kernel_rfl) rfl #[.slice A362_0 (rd_L4 x4_1 x27_2).length c362_0] (by rfl) rfl rfl zq6 ?_
                  with_reducible refine (impl_Dyadic.calls _ _ (rd_L4 x4_1 x27_2) t372 _ ?side1 ?side2 A25.out).mono ?_
                  (case side1 => repeat (first | exact ((Kd.V_reads' (by (with_reducible repeat (first | apply Kd.V_alloc | apply Kd.V_drewN | apply Kd.V_drew)); exact HL362_0.out)).2.2) | (with_reducible refine Kd.C_alloc ?_ _) | (with_reducible refine Kd.C_drewN ?_ _) | (with_reducible refine Kd.C_drew ?_)))
                  (case side2 => exact HC362_0.out)
                  rintro e w36 ⟨v373, rfl, ho0, hb⟩
                  refine ⟨_, rfl, ?_⟩
                  have HO374 := Aside0.mk (Kd.R_lower (Kd.R_newB (Kd.R_newB (Kd.R_new' (Kd.R_new' (Kd.R_newM (M := fun k_ => (w.heap.size ≤ k_)) ho0 (below_size (z44_3 HB)) (fun k_ h_ => h_)) (Kd.R_lt (zq3 HO368))) (Kd.R_lt (zq3 HO371))) (g := gb360) (o := .cells #[.int .i64 t355, .int .i64 t356] 37 (0, 0)) (zq1 BK360)) (g := gb361) (o := .cells #[.int .i64 t357, .int .i64 t358] 37 (0, 0)) (zq1 BK361)) (below_size (z44_3 HB)))
                  replace HO_8 := Aside0.mk (Kd.S_elder' (by (with_reducible repeat (first | apply Kd.S_alloc | apply Kd.S_drewN | apply Kd.S_drew)); exact HO_8.out) (Kd.R_base ho0) hb); replace HO_25 := Aside0.mk (Kd.S_elder' (by (with_reducible repeat (first | apply Kd.S_alloc | apply Kd.S_drewN | apply Kd.S_drew)); exact HO_25.out) (Kd.R_base ho0) hb); replace HL362_0 := Aside0.mk (Kd.V_elder' (by (with_reducible repeat (first | apply Kd.V_alloc | apply Kd.V_drewN | apply Kd.V_drew)); exact HL362_0.out) (Kd.R_base ho0) hb); replace HO368 := Aside0.mk (Kd.R_elder' (zq3 HO368) (Kd.R_base ho0) hb); replace HO371 := Aside0.mk (Kd.R_elder' (zq3 HO371) (Kd.R_base ho0) hb); replace BK360 := Aside0.mk (zbb BK360 hb); replace BK361 := Aside0.mk (zbb BK361 hb); replace HI349 := Aside0.mk (IsS27.below (z44_2 HI349) hb); replace HB := Aside0.mk (below_step (z44_3 HB) hb)
                  (try clear hb)
                  (try clear hb2)
                  (try clear hk)
                  (try clear hi)
                  (try clear ho0)
                  refine hK.out _ _ ⟨zc BK360 0, zc BK360 1, zc BK361 0, zc BK361 1⟩ (fun hHeld => ?_)
                  clear hK K
                  refine norm_ (a' := ?_) ?_ ?_
                  rotate_left
                  ·
                   show Act.put _ (some 38) _ = _
                   simp only [Act.put, List.setIfInBounds_toArray, List.set_cons_zero, List.set_cons_succ, i64_w, i32_w]; rfl
                  exact norm_ zq4 (hJ2_4_5_7 (_, _, _, _) _ ⟨hHeld, (by (with_reducible repeat (first | apply Kd.V_alloc | apply Kd.V_drewN | apply Kd.V_drew)); exact Kd.V_mono HL362_0.out (fun _ hk => ⟨hk.1.1, ⟨hk.1.2.1, ⟨hk.1.2.2.1, ⟨hk.2, ⟨hk.1.2.2.2.1, ⟨hk.1.2.2.2.2.1, ⟨hk.1.2.2.2.2.2.1, ⟨hk.1.2.2.2.2.2.2.1, hk.1.2.2.2.2.2.2.2⟩⟩⟩⟩⟩⟩⟩⟩)), (by (with_reducible repeat (first | apply Kd.R_alloc | apply Kd.R_drewN | apply Kd.R_drew)); exact Kd.R_mono HO368.out (fun _ hk => ⟨hk.1.1, ⟨hk.1.2.1, ⟨hk.2, ⟨hk.1.2.2.1, hk.1.2.2.2⟩⟩⟩⟩)), (by (with_reducible repeat (first | apply Kd.R_alloc | apply Kd.R_drewN | apply Kd.R_drew)); exact Kd.R_mono HO371.out (fun _ hk => ⟨hk.1.1, ⟨hk.1.2.1, ⟨hk.2, ⟨hk.1.2.2.1, hk.1.2.2.2⟩⟩⟩⟩)), (by (with_reducible repeat (first | apply Kd.R_alloc | apply Kd.R_drewN | apply Kd.R_drew)); exact Kd.R_mono HO374.out (fun _ hk => ⟨hk.1.1.1.1.1, ⟨hk.1.1.1.2, ⟨hk.1.1.2, ⟨hk.1.2, hk.2⟩⟩⟩⟩)), (by (with_reducible repeat (first | apply Kd.S_alloc | apply Kd.S_drewN | apply Kd.S_drew)); exact Kd.S_mono HO_25.out (fun _ hk => ⟨hk.1.1, ⟨hk.1.2.1, ⟨hk.1.2.2.1, ⟨hk.2, ⟨hk.1.2.2.2.1, ⟨hk.1.2.2.2.2.1, ⟨hk.1.2.2.2.2.2.1, hk.1.2.2.2.2.2.2⟩⟩⟩⟩⟩⟩⟩)), (by (with_reducible repeat (first | apply Kd.S_alloc | apply Kd.S_drewN | apply Kd.S_drew)); exact Kd.S_mono HO_8.out (fun _ hk => ⟨hk.1.1, ⟨hk.1.2.1, ⟨hk.1.2.2.1, ⟨hk.2, ⟨hk.1.2.2.2.1, ⟨hk.1.2.2.2.2.1, ⟨hk.1.2.2.2.2.2.1, hk.1.2.2.2.2.2.2⟩⟩⟩⟩⟩⟩⟩)), (zq1 BK360), (zq1 BK361), (z44_2 HI349), (z44_3 HB)⟩)
                 ·
                  refine Kd.R_lit_step k37 _ 37 ?hg (N := 40) ?hd (xs := ([(⟨t357, t358⟩ : S37)] : List (S37))) (inner := [.int .i64 t357, .int .i64 t358]) (ok := fun _ => True) (okp := fun _ => True) ?hr ?hp (fun _ hk => hk) trivial (Below.refl _ _) (Nat.le_refl _) (by simp) ?_; (case hd => rfl); (case hg => rfl); (case hr => first | (go_simp; done) | (go_simp; rfl)); (case hp => exact (Reps.c2 (show Kd.M k37 _ _ _ (⟨t357, t358⟩ : S37) [.int .i64 t357, .int .i64 t358] from (k37_mkM _ _ _ (⟨t357, t358⟩ : S37) )) (Reps.none _ _)))
                  intro v376 w36 ho37 hb hg_ hnew_
                  clear hg_ hnew_
                  (first | rw [← Ny375.out] at ho37 | (simp only [Int.reduceToNat] at ho37; rw [← Ny375.out] at ho37))
                  have n0_ := Aside0.mk (Kd.S_elder' (by (with_reducible repeat (first | apply Kd.S_alloc | apply Kd.S_drewN | apply Kd.S_drew)); exact HO_8.out) (Kd.R_base ho37) hb)
                  have n1_ := Aside0.mk (Kd.S_elder' (by (with_reducible repeat (first | apply Kd.S_alloc | apply Kd.S_drewN | apply Kd.S_drew)); exact HO_25.out) (Kd.R_base ho37) hb)
                  have n2_ := Aside0.mk (Kd.V_elder' (by (with_reducible repeat (first | apply Kd.V_alloc | apply Kd.V_drewN | apply Kd.V_drew)); exact HL362_0.out) (Kd.R_base ho37) hb)
                  have n3_ := Aside0.mk (Kd.R_elder' (zq3 HO368) (Kd.R_base ho37) hb)
                  have n4_ := Aside0.mk (Kd.R_elder' (zq3 HO371) (Kd.R_base ho37) hb)
                  have HO377 := Aside0.mk (Kd.R_lower (Kd.R_newB (Kd.R_newB (Kd.R_new' (Kd.R_new' (Kd.R_newM (M := fun k_ => (w.heap.size ≤ k_)) ho37 (below_size (z44_3 HB)) (fun k_ h_ => h_)) (Kd.R_lt (zq3 HO368))) (Kd.R_lt (zq3 HO371))) (g := gb360) (o := .cells #[.int .i64 t355, .int .i64 t356] 37 (0, 0)) (zq1 BK360)) (g := gb361) (o := .cells #[.int .i64 t357, .int .i64 t358] 37 (0, 0)) (zq1 BK361)) (below_size (z44_3 HB)))
                  have n6_ := Aside0.mk (zbb BK360 hb)
                  have n7_ := Aside0.mk (zbb BK361 hb)
                  have n8_ := Aside0.mk (IsS27.below (z44_2 HI349) hb)
                  have n9_ := Aside0.mk (below_step (z44_3 HB) hb)
                  clear HO_8 HO_25 HL362_0 HO368 HO371 BK360 BK361 HI349 HB
                  have HO_8 := n0_; have HO_25 := n1_; have HL362_0 := n2_; have HO368 := n3_; have HO371 := n4_; have BK360 := n6_; have BK361 := n7_; have HI349 := n8_; have HB := n9_
                  clear n0_ n1_ n2_ n3_ n4_ n6_ n7_ n8_ n9_ hb ho37
                  refine hK.out _ _ ⟨zc BK360 0, zc BK360 1, zc BK361 0, zc BK361 1⟩ (fun hHeld => ?_)
                  clear hK K
                  refine norm_ (a' := ?_) ?_ ?_
                  rotate_left
                  ·
                   show Act.put _ (some 40) _ = _
                   simp only [Act.put, List.setIfInBounds_toArray, List.set_cons_zero, List.set_cons_succ, i64_w, i32_w]; rfl
                  exact norm_ zq4 (hJ2_4_5_9 (_, _, _, _) _ ⟨hHeld, (by (with_reducible repeat (first | apply Kd.V_alloc | apply Kd.V_drewN | apply Kd.V_drew)); exact Kd.V_mono HL362_0.out (fun _ hk => ⟨hk.1.1, ⟨hk.1.2.1, ⟨hk.1.2.2.1, ⟨hk.2, ⟨hk.1.2.2.2.1, ⟨hk.1.2.2.2.2.1, ⟨hk.1.2.2.2.2.2.1, ⟨hk.1.2.2.2.2.2.2.1, hk.1.2.2.2.2.2.2.2⟩⟩⟩⟩⟩⟩⟩⟩)), (by (with_reducible repeat (first | apply Kd.R_alloc | apply Kd.R_drewN | apply Kd.R_drew)); exact Kd.R_mono HO368.out (fun _ hk => ⟨hk.1.1, ⟨hk.1.2.1, ⟨hk.2, ⟨hk.1.2.2.1, hk.1.2.2.2⟩⟩⟩⟩)), (by (with_reducible repeat (first | apply Kd.R_alloc | apply Kd.R_drewN | apply Kd.R_drew)); exact Kd.R_mono HO371.out (fun _ hk => ⟨hk.1.1, ⟨hk.1.2.1, ⟨hk.2, ⟨hk.1.2.2.1, hk.1.2.2.2⟩⟩⟩⟩)), (by (with_reducible repeat (first | apply Kd.R_alloc | apply Kd.R_drewN | apply Kd.R_drew)); exact Kd.R_mono HO377.out (fun _ hk => ⟨hk.1.1.1.1.1, ⟨hk.1.1.1.2, ⟨hk.1.1.2, ⟨hk.1.2, hk.2⟩⟩⟩⟩)), (by (with_reducible repeat (first | apply Kd.S_alloc | apply Kd.S_drewN | apply Kd.S_drew)); exact Kd.S_mono HO_25.out (fun _ hk => ⟨hk.1.1, ⟨hk.1.2.1, ⟨hk.1.2.2.1, ⟨hk.2, ⟨hk.1.2.2.2.1, ⟨hk.1.2.2.2.2.1, ⟨hk.1.2.2.2.2.2.1, hk.1.2.2.2.2.2.2⟩⟩⟩⟩⟩⟩⟩)), (by (with_reducible repeat (first | apply Kd.S_alloc | apply Kd.S_drewN | apply Kd.S_drew)); exact Kd.S_mono HO_8.out (fun _ hk => ⟨hk.1.1, ⟨hk.1.2.1, ⟨hk.1.2.2.1, ⟨hk.2, ⟨hk.1.2.2.2.1, ⟨hk.1.2.2.2.2.1, ⟨hk.1.2.2.2.2.2.1, hk.1.2.2.2.2.2.2⟩⟩⟩⟩⟩⟩⟩)), (zq1 BK360), (zq1 BK361), (z44_2 HI349), (z44_3 HB)⟩)
               ·
                rintro ⟨v364, v367, v370, v376⟩ w37 ⟨hS_, h0_, h1_, h2_, h3_, h4_, h5_, h6_, h7_, h8_, h9_⟩
                have HO368 : Aside0 (Kd.R k37 37 w37 w.heap.size (fun k_ => (w.heap.size ≤ k_) ∧ some k_ ≠ (v370 : Value).ownBlock ∧ some k_ ≠ (v376 : Value).ownBlock ∧ k_ ≠ gb360 ∧ k_ ≠ gb361) v367 y366) := ⟨h1_⟩
                have HO371 : Aside0 (Kd.R k37 37 w37 w.heap.size (fun k_ => (w.heap.size ≤ k_) ∧ some k_ ≠ (v367 : Value).ownBlock ∧ some k_ ≠ (v376 : Value).ownBlock ∧ k_ ≠ gb360 ∧ k_ ≠ gb361) v370 y369) := ⟨h2_⟩
                have HO377 : Aside0 (Kd.R k37 37 w37 w.heap.size (fun k_ => (w.heap.size ≤ k_) ∧ some k_ ≠ (v367 : Value).ownBlock ∧ some k_ ≠ (v370 : Value).ownBlock ∧ k_ ≠ gb360 ∧ k_ ≠ gb361) v376 y375) := ⟨h3_⟩
                replace HL362_0 : Aside0 (Kd.V k37 37 w37 w.heap.size (fun k_ => (w.heap.size ≤ k_) ∧ some k_ ≠ (v367 : Value).ownBlock ∧ some k_ ≠ (v370 : Value).ownBlock ∧ some k_ ≠ (v376 : Value).ownBlock ∧ some k_ ≠ (.slice (some ad362) x4_1.length co19 : Value).ownBlock ∧ some k_ ≠ (.slice Ao28 x8_2.length co28 : Value).ownBlock ∧ k_ ≠ gb349 ∧ k_ ≠ gb360 ∧ k_ ≠ gb361) (.slice A362_0 (rd_L4 x4_1 x27_2).length c362_0) (rd_L4 x4_1 x27_2)) := ⟨h0_⟩; replace HO_25 : Aside0 (Kd.S (Kd.slice 37 k37) 51 w37 w.heap.size (fun k_ => (w.heap.size ≤ k_) ∧ some k_ ≠ (v367 : Value).ownBlock ∧ some k_ ≠ (v370 : Value).ownBlock ∧ some k_ ≠ (v376 : Value).ownBlock ∧ some k_ ≠ (.slice Ao28 x8_2.length co28 : Value).ownBlock ∧ k_ ≠ gb349 ∧ k_ ≠ gb360 ∧ k_ ≠ gb361) (.slice (some ad362) x4_1.length co19) x4_1) := ⟨h4_⟩; replace HO_8 : Aside0 (Kd.S (Kd.slice 37 k37) 51 w37 w.heap.size (fun k_ => (w.heap.size ≤ k_) ∧ some k_ ≠ (v367 : Value).ownBlock ∧ some k_ ≠ (v370 : Value).ownBlock ∧ some k_ ≠ (v376 : Value).ownBlock ∧ some k_ ≠ (.slice (some ad362) x4_1.length co19 : Value).ownBlock ∧ k_ ≠ gb349 ∧ k_ ≠ gb360 ∧ k_ ≠ gb361) (.slice Ao28 x8_2.length co28) x8_2) := ⟨h5_⟩; replace BK360 : Aside0 (w37.heap[gb360]? = some (.cells #[.int .i64 t355, .int .i64 t356] 37 (0, 0))) := ⟨h6_⟩; replace BK361 : Aside0 (w37.heap[gb361]? = some (.cells #[.int .i64 t357, .int .i64 t358] 37 (0, 0))) := ⟨h7_⟩; replace HI349 : Aside0 (IsS27 w w37 gb349 t351 l0_1 l0_2) := ⟨h8_⟩; replace HB : Aside0 (Below w.heap.size w w37) := ⟨h9_⟩
                clear HR362_0 h0_ h1_ h2_ h3_ h4_ h5_ h6_ h7_ h8_ h9_
                have hHeld : w37.cell? ⟨gb360, 0, none⟩ = some (.int .i64 t355) ∧ w37.cell? ⟨gb360, 1, none⟩ = some (.int .i64 t356) ∧ w37.cell? ⟨gb361, 0, none⟩ = some (.int .i64 t357) ∧ w37.cell? ⟨gb361, 1, none⟩ = some (.int .i64 t358) := hS_
                refine norm_ (a' := ?_) ?_ ?_
                rotate_left
                ·
                 simp only [putAll, Act.put, List.setIfInBounds_toArray, List.set_cons_zero, List.set_cons_succ]
                 rfl
                refine one_ (i := 7) (N := some 38) #[true, true, true, true, true, true, true, true, true, true, false, false, false, false] rfl rfl (one_of HT_.out (by kernel_rfl)) (by decide) (fun K hK => ?_)
                refine goes_ Try.func86 (by kernel_rfl) rfl #[.slice A362_0 (rd_L4 x4_1 x27_2).length c362_0] (by rfl) rfl rfl zq6 ?_
                with_reducible refine (impl_Dyadic.calls _ _ (rd_L4 x4_1 x27_2) t372 _ ?side1 ?side2 A25.out).mono ?_
                (case side1 => repeat (first | exact ((Kd.V_reads' (by (with_reducible repeat (first | apply Kd.V_alloc | apply Kd.V_drewN | apply Kd.V_drew)); exact HL362_0.out)).2.2) | (with_reducible refine Kd.C_alloc ?_ _) | (with_reducible refine Kd.C_drewN ?_ _) | (with_reducible refine Kd.C_drew ?_)))
                (case side2 => exact HC362_0.out)
                rintro e w38 ⟨v373, rfl, ho0, hb⟩
                refine ⟨_, rfl, ?_⟩
                have HO374 := Aside0.mk (Kd.R_lower (Kd.R_newB (Kd.R_newB (Kd.R_new' (Kd.R_new' (Kd.R_new' (Kd.R_newM (M := fun k_ => (w.heap.size ≤ k_)) ho0 (below_size (z44_3 HB)) (fun k_ h_ => h_)) (Kd.R_lt (zq3 HO368))) (Kd.R_lt (zq3 HO371))) (Kd.R_lt (zq3 HO377))) (g := gb360) (o := .cells #[.int .i64 t355, .int .i64 t356] 37 (0, 0)) (zq1 BK360)) (g := gb361) (o := .cells #[.int .i64 t357, .int .i64 t358] 37 (0, 0)) (zq1 BK361)) (below_size (z44_3 HB)))
                replace HO_8 := Aside0.mk (Kd.S_elder' (by (with_reducible repeat (first | apply Kd.S_alloc | apply Kd.S_drewN | apply Kd.S_drew)); exact HO_8.out) (Kd.R_base ho0) hb); replace HO_25 := Aside0.mk (Kd.S_elder' (by (with_reducible repeat (first | apply Kd.S_alloc | apply Kd.S_drewN | apply Kd.S_drew)); exact HO_25.out) (Kd.R_base ho0) hb); replace HL362_0 := Aside0.mk (Kd.V_elder' (by (with_reducible repeat (first | apply Kd.V_alloc | apply Kd.V_drewN | apply Kd.V_drew)); exact HL362_0.out) (Kd.R_base ho0) hb); replace HO368 := Aside0.mk (Kd.R_elder' (zq3 HO368) (Kd.R_base ho0) hb); replace HO371 := Aside0.mk (Kd.R_elder' (zq3 HO371) (Kd.R_base ho0) hb); replace HO377 := Aside0.mk (Kd.R_elder' (zq3 HO377) (Kd.R_base ho0) hb); replace BK360 := Aside0.mk (zbb BK360 hb); replace BK361 := Aside0.mk (zbb BK361 hb); replace HI349 := Aside0.mk (IsS27.below (z44_2 HI349) hb); replace HB := Aside0.mk (below_step (z44_3 HB) hb)
                (try clear hb)
                (try clear hb2)
                (try clear hk)
                (try clear hi)
                (try clear ho0)
                refine hK.out _ _ ⟨zc BK360 0, zc BK360 1, zc BK361 0, zc BK361 1⟩ (fun hHeld => ?_)
                clear hK K
                refine norm_ (a' := ?_) ?_ ?_
                rotate_left
                ·
                 show Act.put _ (some 38) _ = _
                 simp only [Act.put, List.setIfInBounds_toArray, List.set_cons_zero, List.set_cons_succ, i64_w, i32_w]; rfl
                exact norm_ zq4 (hJ2_4_5_7_9 (_, _, _, _, _) _ ⟨hHeld, (by (with_reducible repeat (first | apply Kd.V_alloc | apply Kd.V_drewN | apply Kd.V_drew)); exact Kd.V_mono HL362_0.out (fun _ hk => ⟨hk.1.1, ⟨hk.1.2.1, ⟨hk.1.2.2.1, ⟨hk.2, ⟨hk.1.2.2.2.1, ⟨hk.1.2.2.2.2.1, ⟨hk.1.2.2.2.2.2.1, ⟨hk.1.2.2.2.2.2.2.1, ⟨hk.1.2.2.2.2.2.2.2.1, hk.1.2.2.2.2.2.2.2.2⟩⟩⟩⟩⟩⟩⟩⟩⟩)), (by (with_reducible repeat (first | apply Kd.R_alloc | apply Kd.R_drewN | apply Kd.R_drew)); exact Kd.R_mono HO368.out (fun _ hk => ⟨hk.1.1, ⟨hk.1.2.1, ⟨hk.2, ⟨hk.1.2.2.1, ⟨hk.1.2.2.2.1, hk.1.2.2.2.2⟩⟩⟩⟩⟩)), (by (with_reducible repeat (first | apply Kd.R_alloc | apply Kd.R_drewN | apply Kd.R_drew)); exact Kd.R_mono HO371.out (fun _ hk => ⟨hk.1.1, ⟨hk.1.2.1, ⟨hk.2, ⟨hk.1.2.2.1, ⟨hk.1.2.2.2.1, hk.1.2.2.2.2⟩⟩⟩⟩⟩)), (by (with_reducible repeat (first | apply Kd.R_alloc | apply Kd.R_drewN | apply Kd.R_drew)); exact Kd.R_mono HO374.out (fun _ hk => ⟨hk.1.1.1.1.1.1, ⟨hk.1.1.1.1.2, ⟨hk.1.1.1.2, ⟨hk.1.1.2, ⟨hk.1.2, hk.2⟩⟩⟩⟩⟩)), (by (with_reducible repeat (first | apply Kd.R_alloc | apply Kd.R_drewN | apply Kd.R_drew)); exact Kd.R_mono HO377.out (fun _ hk => ⟨hk.1.1, ⟨hk.1.2.1, ⟨hk.1.2.2.1, ⟨hk.2, ⟨hk.1.2.2.2.1, hk.1.2.2.2.2⟩⟩⟩⟩⟩)), (by (with_reducible repeat (first | apply Kd.S_alloc | apply Kd.S_drewN | apply Kd.S_drew)); exact Kd.S_mono HO_25.out (fun _ hk => ⟨hk.1.1, ⟨hk.1.2.1, ⟨hk.1.2.2.1, ⟨hk.2, ⟨hk.1.2.2.2.1, ⟨hk.1.2.2.2.2.1, ⟨hk.1.2.2.2.2.2.1, ⟨hk.1.2.2.2.2.2.2.1, hk.1.2.2.2.2.2.2.2⟩⟩⟩⟩⟩⟩⟩⟩)), (by (with_reducible repeat (first | apply Kd.S_alloc | apply Kd.S_drewN | apply Kd.S_drew)); exact Kd.S_mono HO_8.out (fun _ hk => ⟨hk.1.1, ⟨hk.1.2.1, ⟨hk.1.2.2.1, ⟨hk.2, ⟨hk.1.2.2.2.1, ⟨hk.1.2.2.2.2.1, ⟨hk.1.2.2.2.2.2.1, ⟨hk.1.2.2.2.2.2.2.1, hk.1.2.2.2.2.2.2.2⟩⟩⟩⟩⟩⟩⟩⟩)), (zq1 BK360), (zq1 BK361), (z44_2 HI349), (z44_3 HB)⟩)
              ·
               rintro ⟨v364, v367, v370, v373⟩ w36 ⟨hS_, h0_, h1_, h2_, h3_, h4_, h5_, h6_, h7_, h8_, h9_⟩
               have HO368 : Aside0 (Kd.R k37 37 w36 w.heap.size (fun k_ => (w.heap.size ≤ k_) ∧ some k_ ≠ (v370 : Value).ownBlock ∧ some k_ ≠ (v373 : Value).ownBlock ∧ k_ ≠ gb360 ∧ k_ ≠ gb361) v367 y366) := ⟨h1_⟩
               have HO371 : Aside0 (Kd.R k37 37 w36 w.heap.size (fun k_ => (w.heap.size ≤ k_) ∧ some k_ ≠ (v367 : Value).ownBlock ∧ some k_ ≠ (v373 : Value).ownBlock ∧ k_ ≠ gb360 ∧ k_ ≠ gb361) v370 y369) := ⟨h2_⟩
               have HO374 : Aside0 (Kd.R k37 37 w36 w.heap.size (fun k_ => (w.heap.size ≤ k_) ∧ some k_ ≠ (v367 : Value).ownBlock ∧ some k_ ≠ (v370 : Value).ownBlock ∧ k_ ≠ gb360 ∧ k_ ≠ gb361) v373 t372) := ⟨h3_⟩
               replace HL362_0 : Aside0 (Kd.V k37 37 w36 w.heap.size (fun k_ => (w.heap.size ≤ k_) ∧ some k_ ≠ (v367 : Value).ownBlock ∧ some k_ ≠ (v370 : Value).ownBlock ∧ some k_ ≠ (v373 : Value).ownBlock ∧ some k_ ≠ (.slice (some ad362) x4_1.length co19 : Value).ownBlock ∧ some k_ ≠ (.slice Ao28 x8_2.length co28 : Value).ownBlock ∧ k_ ≠ gb349 ∧ k_ ≠ gb360 ∧ k_ ≠ gb361) (.slice A362_0 (rd_L4 x4_1 x27_2).length c362_0) (rd_L4 x4_1 x27_2)) := ⟨h0_⟩; replace HO_25 : Aside0 (Kd.S (Kd.slice 37 k37) 51 w36 w.heap.size (fun k_ => (w.heap.size ≤ k_) ∧ some k_ ≠ (v367 : Value).ownBlock ∧ some k_ ≠ (v370 : Value).ownBlock ∧ some k_ ≠ (v373 : Value).ownBlock ∧ some k_ ≠ (.slice Ao28 x8_2.length co28 : Value).ownBlock ∧ k_ ≠ gb349 ∧ k_ ≠ gb360 ∧ k_ ≠ gb361) (.slice (some ad362) x4_1.length co19) x4_1) := ⟨h4_⟩; replace HO_8 : Aside0 (Kd.S (Kd.slice 37 k37) 51 w36 w.heap.size (fun k_ => (w.heap.size ≤ k_) ∧ some k_ ≠ (v367 : Value).ownBlock ∧ some k_ ≠ (v370 : Value).ownBlock ∧ some k_ ≠ (v373 : Value).ownBlock ∧ some k_ ≠ (.slice (some ad362) x4_1.length co19 : Value).ownBlock ∧ k_ ≠ gb349 ∧ k_ ≠ gb360 ∧ k_ ≠ gb361) (.slice Ao28 x8_2.length co28) x8_2) := ⟨h5_⟩; replace BK360 : Aside0 (w36.heap[gb360]? = some (.cells #[.int .i64 t355, .int .i64 t356] 37 (0, 0))) := ⟨h6_⟩; replace BK361 : Aside0 (w36.heap[gb361]? = some (.cells #[.int .i64 t357, .int .i64 t358] 37 (0, 0))) := ⟨h7_⟩; replace HI349 : Aside0 (IsS27 w w36 gb349 t351 l0_1 l0_2) := ⟨h8_⟩; replace HB : Aside0 (Below w.heap.size w w36) := ⟨h9_⟩
               clear HR362_0 h0_ h1_ h2_ h3_ h4_ h5_ h6_ h7_ h8_ h9_
               have hHeld : w36.cell? ⟨gb360, 0, none⟩ = some (.int .i64 t355) ∧ w36.cell? ⟨gb360, 1, none⟩ = some (.int .i64 t356) ∧ w36.cell? ⟨gb361, 0, none⟩ = some (.int .i64 t357) ∧ w36.cell? ⟨gb361, 1, none⟩ = some (.int .i64 t358) := hS_
               refine norm_ (a' := ?_) ?_ ?_
               rotate_left
               ·
                simp only [putAll, Act.put, List.setIfInBounds_toArray, List.set_cons_zero, List.set_cons_succ]
                rfl
               refine one_ (i := 9) (N := some 40) #[true, true, true, true, true, true, true, true, true, true, false, false, false, false] rfl rfl (one_of HT_.out (by kernel_rfl)) (by decide) (fun K hK => ?_)
               refine Kd.R_lit_step k37 _ 37 ?hg (N := 40) ?hd (xs := ([(⟨t357, t358⟩ : S37)] : List (S37))) (inner := [.int .i64 t357, .int .i64 t358]) (ok := fun _ => True) (okp := fun _ => True) ?hr ?hp (fun _ hk => hk) trivial (Below.refl _ _) (Nat.le_refl _) (by simp) ?_; (case hd => rfl); (case hg => rfl); (case hr => first | (go_simp; done) | (go_simp; rfl)); (case hp => exact (Reps.c2 (show Kd.M k37 _ _ _ (⟨t357, t358⟩ : S37) [.int .i64 t357, .int .i64 t358] from (k37_mkM _ _ _ (⟨t357, t358⟩ : S37) )) (Reps.none _ _)))
               intro v376 w37 ho38 hb hg_ hnew_
               clear hg_ hnew_
               (first | rw [← Ny375.out] at ho38 | (simp only [Int.reduceToNat] at ho38; rw [← Ny375.out] at ho38))
               have n0_ := Aside0.mk (Kd.S_elder' (by (with_reducible repeat (first | apply Kd.S_alloc | apply Kd.S_drewN | apply Kd.S_drew)); exact HO_8.out) (Kd.R_base ho38) hb)
               have n1_ := Aside0.mk (Kd.S_elder' (by (with_reducible repeat (first | apply Kd.S_alloc | apply Kd.S_drewN | apply Kd.S_drew)); exact HO_25.out) (Kd.R_base ho38) hb)
               have n2_ := Aside0.mk (Kd.V_elder' (by (with_reducible repeat (first | apply Kd.V_alloc | apply Kd.V_drewN | apply Kd.V_drew)); exact HL362_0.out) (Kd.R_base ho38) hb)
               have n3_ := Aside0.mk (Kd.R_elder' (zq3 HO368) (Kd.R_base ho38) hb)
               have n4_ := Aside0.mk (Kd.R_elder' (zq3 HO371) (Kd.R_base ho38) hb)
               have n5_ := Aside0.mk (Kd.R_elder' (zq3 HO374) (Kd.R_base ho38) hb)
               have HO377 := Aside0.mk (Kd.R_lower (Kd.R_newB (Kd.R_newB (Kd.R_new' (Kd.R_new' (Kd.R_new' (Kd.R_newM (M := fun k_ => (w.heap.size ≤ k_)) ho38 (below_size (z44_3 HB)) (fun k_ h_ => h_)) (Kd.R_lt (zq3 HO368))) (Kd.R_lt (zq3 HO371))) (Kd.R_lt (zq3 HO374))) (g := gb360) (o := .cells #[.int .i64 t355, .int .i64 t356] 37 (0, 0)) (zq1 BK360)) (g := gb361) (o := .cells #[.int .i64 t357, .int .i64 t358] 37 (0, 0)) (zq1 BK361)) (below_size (z44_3 HB)))
               have n7_ := Aside0.mk (zbb BK360 hb)
               have n8_ := Aside0.mk (zbb BK361 hb)
               have n9_ := Aside0.mk (IsS27.below (z44_2 HI349) hb)
               have n10_ := Aside0.mk (below_step (z44_3 HB) hb)
               clear HO_8 HO_25 HL362_0 HO368 HO371 HO374 BK360 BK361 HI349 HB
               have HO_8 := n0_; have HO_25 := n1_; have HL362_0 := n2_; have HO368 := n3_; have HO371 := n4_; have HO374 := n5_; have BK360 := n7_; have BK361 := n8_; have HI349 := n9_; have HB := n10_
               clear n0_ n1_ n2_ n3_ n4_ n5_ n7_ n8_ n9_ n10_ hb ho38
               refine hK.out _ _ ⟨zc BK360 0, zc BK360 1, zc BK361 0, zc BK361 1⟩ (fun hHeld => ?_)
               clear hK K
               refine norm_ (a' := ?_) ?_ ?_
               rotate_left
               ·
                show Act.put _ (some 40) _ = _
                simp only [Act.put, List.setIfInBounds_toArray, List.set_cons_zero, List.set_cons_succ, i64_w, i32_w]; rfl
               exact norm_ zq4 (hJ2_4_5_7_9 (_, _, _, _, _) _ ⟨hHeld, (by (with_reducible repeat (first | apply Kd.V_alloc | apply Kd.V_drewN | apply Kd.V_drew)); exact Kd.V_mono HL362_0.out (fun _ hk => ⟨hk.1.1, ⟨hk.1.2.1, ⟨hk.1.2.2.1, ⟨hk.1.2.2.2.1, ⟨hk.2, ⟨hk.1.2.2.2.2.1, ⟨hk.1.2.2.2.2.2.1, ⟨hk.1.2.2.2.2.2.2.1, ⟨hk.1.2.2.2.2.2.2.2.1, hk.1.2.2.2.2.2.2.2.2⟩⟩⟩⟩⟩⟩⟩⟩⟩)), (by (with_reducible repeat (first | apply Kd.R_alloc | apply Kd.R_drewN | apply Kd.R_drew)); exact Kd.R_mono HO368.out (fun _ hk => ⟨hk.1.1, ⟨hk.1.2.1, ⟨hk.1.2.2.1, ⟨hk.2, ⟨hk.1.2.2.2.1, hk.1.2.2.2.2⟩⟩⟩⟩⟩)), (by (with_reducible repeat (first | apply Kd.R_alloc | apply Kd.R_drewN | apply Kd.R_drew)); exact Kd.R_mono HO371.out (fun _ hk => ⟨hk.1.1, ⟨hk.1.2.1, ⟨hk.1.2.2.1, ⟨hk.2, ⟨hk.1.2.2.2.1, hk.1.2.2.2.2⟩⟩⟩⟩⟩)), (by (with_reducible repeat (first | apply Kd.R_alloc | apply Kd.R_drewN | apply Kd.R_drew)); exact Kd.R_mono HO374.out (fun _ hk => ⟨hk.1.1, ⟨hk.1.2.1, ⟨hk.1.2.2.1, ⟨hk.2, ⟨hk.1.2.2.2.1, hk.1.2.2.2.2⟩⟩⟩⟩⟩)), (by (with_reducible repeat (first | apply Kd.R_alloc | apply Kd.R_drewN | apply Kd.R_drew)); exact Kd.R_mono HO377.out (fun _ hk => ⟨hk.1.1.1.1.1.1, ⟨hk.1.1.1.1.2, ⟨hk.1.1.1.2, ⟨hk.1.1.2, ⟨hk.1.2, hk.2⟩⟩⟩⟩⟩)), (by (with_reducible repeat (first | apply Kd.S_alloc | apply Kd.S_drewN | apply Kd.S_drew)); exact Kd.S_mono HO_25.out (fun _ hk => ⟨hk.1.1, ⟨hk.1.2.1, ⟨hk.1.2.2.1, ⟨hk.1.2.2.2.1, ⟨hk.2, ⟨hk.1.2.2.2.2.1, ⟨hk.1.2.2.2.2.2.1, ⟨hk.1.2.2.2.2.2.2.1, hk.1.2.2.2.2.2.2.2⟩⟩⟩⟩⟩⟩⟩⟩)), (by (with_reducible repeat (first | apply Kd.S_alloc | apply Kd.S_drewN | apply Kd.S_drew)); exact Kd.S_mono HO_8.out (fun _ hk => ⟨hk.1.1, ⟨hk.1.2.1, ⟨hk.1.2.2.1, ⟨hk.1.2.2.2.1, ⟨hk.2, ⟨hk.1.2.2.2.2.1, ⟨hk.1.2.2.2.2.2.1, ⟨hk.1.2.2.2.2.2.2.1, hk.1.2.2.2.2.2.2.2⟩⟩⟩⟩⟩⟩⟩⟩)), (zq1 BK360), (zq1 BK361), (z44_2 HI349), (z44_3 HB)⟩)
             rintro ⟨v364, v367, v370, v373, v376⟩ w38 ⟨hS_, h0_, h1_, h2_, h3_, h4_, h5_, h6_, h7_, h8_, h9_, h10_⟩
             have HO368 : Aside0 (Kd.R k37 37 w38 w.heap.size (fun k_ => (w.heap.size ≤ k_) ∧ some k_ ≠ (v370 : Value).ownBlock ∧ some k_ ≠ (v373 : Value).ownBlock ∧ some k_ ≠ (v376 : Value).ownBlock ∧ k_ ≠ gb360 ∧ k_ ≠ gb361) v367 y366) := ⟨h1_⟩
             have HO371 : Aside0 (Kd.R k37 37 w38 w.heap.size (fun k_ => (w.heap.size ≤ k_) ∧ some k_ ≠ (v367 : Value).ownBlock ∧ some k_ ≠ (v373 : Value).ownBlock ∧ some k_ ≠ (v376 : Value).ownBlock ∧ k_ ≠ gb360 ∧ k_ ≠ gb361) v370 y369) := ⟨h2_⟩
             have HO374 : Aside0 (Kd.R k37 37 w38 w.heap.size (fun k_ => (w.heap.size ≤ k_) ∧ some k_ ≠ (v367 : Value).ownBlock ∧ some k_ ≠ (v370 : Value).ownBlock ∧ some k_ ≠ (v376 : Value).ownBlock ∧ k_ ≠ gb360 ∧ k_ ≠ gb361) v373 t372) := ⟨h3_⟩
             have HO377 : Aside0 (Kd.R k37 37 w38 w.heap.size (fun k_ => (w.heap.size ≤ k_) ∧ some k_ ≠ (v367 : Value).ownBlock ∧ some k_ ≠ (v370 : Value).ownBlock ∧ some k_ ≠ (v373 : Value).ownBlock ∧ k_ ≠ gb360 ∧ k_ ≠ gb361) v376 y375) := ⟨h4_⟩
             replace HL362_0 : Aside0 (Kd.V k37 37 w38 w.heap.size (fun k_ => (w.heap.size ≤ k_) ∧ some k_ ≠ (v367 : Value).ownBlock ∧ some k_ ≠ (v370 : Value).ownBlock ∧ some k_ ≠ (v373 : Value).ownBlock ∧ some k_ ≠ (v376 : Value).ownBlock ∧ some k_ ≠ (.slice (some ad362) x4_1.length co19 : Value).ownBlock ∧ some k_ ≠ (.slice Ao28 x8_2.length co28 : Value).ownBlock ∧ k_ ≠ gb349 ∧ k_ ≠ gb360 ∧ k_ ≠ gb361) (.slice A362_0 (rd_L4 x4_1 x27_2).length c362_0) (rd_L4 x4_1 x27_2)) := ⟨h0_⟩; replace HO_25 : Aside0 (Kd.S (Kd.slice 37 k37) 51 w38 w.heap.size (fun k_ => (w.heap.size ≤ k_) ∧ some k_ ≠ (v367 : Value).ownBlock ∧ some k_ ≠ (v370 : Value).ownBlock ∧ some k_ ≠ (v373 : Value).ownBlock ∧ some k_ ≠ (v376 : Value).ownBlock ∧ some k_ ≠ (.slice Ao28 x8_2.length co28 : Value).ownBlock ∧ k_ ≠ gb349 ∧ k_ ≠ gb360 ∧ k_ ≠ gb361) (.slice (some ad362) x4_1.length co19) x4_1) := ⟨h5_⟩; replace HO_8 : Aside0 (Kd.S (Kd.slice 37 k37) 51 w38 w.heap.size (fun k_ => (w.heap.size ≤ k_) ∧ some k_ ≠ (v367 : Value).ownBlock ∧ some k_ ≠ (v370 : Value).ownBlock ∧ some k_ ≠ (v373 : Value).ownBlock ∧ some k_ ≠ (v376 : Value).ownBlock ∧ some k_ ≠ (.slice (some ad362) x4_1.length co19 : Value).ownBlock ∧ k_ ≠ gb349 ∧ k_ ≠ gb360 ∧ k_ ≠ gb361) (.slice Ao28 x8_2.length co28) x8_2) := ⟨h6_⟩; replace BK360 : Aside0 (w38.heap[gb360]? = some (.cells #[.int .i64 t355, .int .i64 t356] 37 (0, 0))) := ⟨h7_⟩; replace BK361 : Aside0 (w38.heap[gb361]? = some (.cells #[.int .i64 t357, .int .i64 t358] 37 (0, 0))) := ⟨h8_⟩; replace HI349 : Aside0 (IsS27 w w38 gb349 t351 l0_1 l0_2) := ⟨h9_⟩; replace HB : Aside0 (Below w.heap.size w w38) := ⟨h10_⟩
             clear HR362_0 h0_ h10_ h1_ h2_ h3_ h4_ h5_ h6_ h7_ h8_ h9_
             have hHeld : w38.cell? ⟨gb360, 0, none⟩ = some (.int .i64 t355) ∧ w38.cell? ⟨gb360, 1, none⟩ = some (.int .i64 t356) ∧ w38.cell? ⟨gb361, 0, none⟩ = some (.int .i64 t357) ∧ w38.cell? ⟨gb361, 1, none⟩ = some (.int .i64 t358) := hS_
             obtain ⟨Ao40, co40, eo40⟩ := Kd.R_slice HO377.out
             (first | subst eo40 | (injection eo40 with f1_ f2_ f3_; have f4_ := f1_.symm; have f5_ := f3_.symm; clear f1_ f2_ f3_; subst f4_; subst f5_))
             refine norm_ (a' := ?_) ?_ ?_
             rotate_left
             ·
              simp only [putAll, Act.put, List.setIfInBounds_toArray, List.set_cons_zero, List.set_cons_succ]
              rfl
             refine one_ (i := 10) (N := some 41) #[true, true, true, true, true, true, true, true, true, true, true, false, false, false] rfl rfl (one_of HT_.out (by kernel_rfl)) (by decide) (fun K hK => ?_)
             refine Kd.R_append_rows_step k37 (w0 := w) w.heap.size (by rfl) (.tmp 38) (.tmp 40) 51 37 (.agg #[(.int .i64 0), (.int .i64 0)]) 16 rfl Try.underlying51 info37 rfl (by decide) (by omega) v373 t372 y375 _ _ _ (fun k_ => (w.heap.size ≤ k_) ∧ some k_ ≠ (v367 : Value).ownBlock ∧ some k_ ≠ (v370 : Value).ownBlock ∧ some k_ ≠ (.slice Ao40 y375.length co40 : Value).ownBlock ∧ k_ ≠ gb360 ∧ k_ ≠ gb361) (fun _ => False) rfl rfl ?aO ?aR (fun _ _ h => h) (fun _ h => h.elim) ?aF ?aB ?aS ?aL ?_
             (case aR => repeat (first | exact (Kd.R_reads' HO377.out).2.2 | (with_reducible refine Kd.C_alloc ?_ _) | (with_reducible refine Kd.C_drewN ?_ _) | (with_reducible refine Kd.C_drew ?_)))
             (case aB => exact (z44_3 HB))
             (case aF => exact (fun k_ hk => ⟨(Nat.le_trans (below_size (z44_3 HB)) hk), Kd.fresh' (Kd.R_lt (zq3 HO368)) k_ hk, Kd.fresh' (Kd.R_lt (zq3 HO371)) k_ hk, Kd.fresh' (Kd.R_lt (zq3 HO377)) k_ hk, Kd.freshB (g := gb360) (o := .cells #[.int .i64 t355, .int .i64 t356] 37 (0, 0)) (zq1 BK360) k_ hk, Kd.freshB (g := gb361) (o := .cells #[.int .i64 t357, .int .i64 t358] 37 (0, 0)) (zq1 BK361) k_ hk⟩))
             (case aO => exact (zq3 HO374))
             (case aS => exact (below_size (z44_3 HB)))
             (case aL => have := LMc26.out; omega)
             intro v379 w39 ho hb hg hat
             rw [← Ny378.out] at ho
             have n0_ := Aside0.mk (Kd.S_afterv (ok := (fun k_ => (w.heap.size ≤ k_) ∧ some k_ ≠ (.slice (some ad362) x4_1.length co19 : Value).ownBlock ∧ some k_ ≠ (v367 : Value).ownBlock ∧ some k_ ≠ (v370 : Value).ownBlock ∧ some k_ ≠ (.slice Ao40 y375.length co40 : Value).ownBlock ∧ k_ ≠ gb349 ∧ k_ ≠ gb360 ∧ k_ ≠ gb361)) (by (with_reducible repeat (first | apply Kd.S_alloc | apply Kd.S_drewN | apply Kd.S_drew)); exact Kd.S_mono HO_8.out (fun _ hk => ⟨⟨hk.1, ⟨hk.2.2.2.2.2.1, ⟨hk.2.1, ⟨hk.2.2.1, ⟨hk.2.2.2.2.1, ⟨hk.2.2.2.2.2.2.1, ⟨hk.2.2.2.2.2.2.2.1, hk.2.2.2.2.2.2.2.2⟩⟩⟩⟩⟩⟩⟩, hk.2.2.2.1⟩)) hg hat)
             have n1_ := Aside0.mk (Kd.S_afterv (ok := (fun k_ => (w.heap.size ≤ k_) ∧ some k_ ≠ (.slice Ao28 x8_2.length co28 : Value).ownBlock ∧ some k_ ≠ (v367 : Value).ownBlock ∧ some k_ ≠ (v370 : Value).ownBlock ∧ some k_ ≠ (.slice Ao40 y375.length co40 : Value).ownBlock ∧ k_ ≠ gb349 ∧ k_ ≠ gb360 ∧ k_ ≠ gb361)) (by (with_reducible repeat (first | apply Kd.S_alloc | apply Kd.S_drewN | apply Kd.S_drew)); exact Kd.S_mono HO_25.out (fun _ hk => ⟨⟨hk.1, ⟨hk.2.2.2.2.2.1, ⟨hk.2.1, ⟨hk.2.2.1, ⟨hk.2.2.2.2.1, ⟨hk.2.2.2.2.2.2.1, ⟨hk.2.2.2.2.2.2.2.1, hk.2.2.2.2.2.2.2.2⟩⟩⟩⟩⟩⟩⟩, hk.2.2.2.1⟩)) hg hat)
             have n2_ := Aside0.mk (blk_grown (g := gb360) (o := .cells #[.int .i64 t355, .int .i64 t356] 37 (0, 0)) (zq1 BK360) hg (Kd.R_away HO374.out (fun _ hk => hk.2.2.2.2.1)))
             have n3_ := Aside0.mk (blk_grown (g := gb361) (o := .cells #[.int .i64 t357, .int .i64 t358] 37 (0, 0)) (zq1 BK361) hg (Kd.R_away HO374.out (fun _ hk => hk.2.2.2.2.2)))
             have n4_ := Aside0.mk (IsS27.grown (z44_2 HI349) hg (IsS27.own_ne HI349.out HO374.out (by decide)))
             have n5_ := Aside0.mk (Kd.V_afterv (ok := (fun k_ => (w.heap.size ≤ k_) ∧ some k_ ≠ (.slice Ao28 x8_2.length co28 : Value).ownBlock ∧ some k_ ≠ (.slice (some ad362) x4_1.length co19 : Value).ownBlock ∧ some k_ ≠ (v367 : Value).ownBlock ∧ some k_ ≠ (v370 : Value).ownBlock ∧ some k_ ≠ (.slice Ao40 y375.length co40 : Value).ownBlock ∧ k_ ≠ gb349 ∧ k_ ≠ gb360 ∧ k_ ≠ gb361)) (by (with_reducible repeat (first | apply Kd.V_alloc | apply Kd.V_drewN | apply Kd.V_drew)); exact Kd.V_mono HL362_0.out (fun _ hk => ⟨⟨hk.1, ⟨hk.2.2.2.2.2.2.1, ⟨hk.2.2.2.2.2.1, ⟨hk.2.1, ⟨hk.2.2.1, ⟨hk.2.2.2.2.1, ⟨hk.2.2.2.2.2.2.2.1, ⟨hk.2.2.2.2.2.2.2.2.1, hk.2.2.2.2.2.2.2.2.2⟩⟩⟩⟩⟩⟩⟩⟩, hk.2.2.2.1⟩)) hg hat)
             have n6_ := Aside0.mk (Kd.R_after (ok := (fun k_ => (w.heap.size ≤ k_) ∧ some k_ ≠ (v370 : Value).ownBlock ∧ some k_ ≠ (.slice Ao40 y375.length co40 : Value).ownBlock ∧ k_ ≠ gb360 ∧ k_ ≠ gb361)) (by (with_reducible repeat (first | apply Kd.R_alloc | apply Kd.R_drewN | apply Kd.R_drew)); exact Kd.R_mono HO368.out (fun _ hk => ⟨⟨hk.1, ⟨hk.2.1, ⟨hk.2.2.2.1, ⟨hk.2.2.2.2.1, hk.2.2.2.2.2⟩⟩⟩⟩, hk.2.2.1⟩)) hg hat)
             have n7_ := Aside0.mk (Kd.R_after (ok := (fun k_ => (w.heap.size ≤ k_) ∧ some k_ ≠ (v367 : Value).ownBlock ∧ some k_ ≠ (.slice Ao40 y375.length co40 : Value).ownBlock ∧ k_ ≠ gb360 ∧ k_ ≠ gb361)) (by (with_reducible repeat (first | apply Kd.R_alloc | apply Kd.R_drewN | apply Kd.R_drew)); exact Kd.R_mono HO371.out (fun _ hk => ⟨⟨hk.1, ⟨hk.2.1, ⟨hk.2.2.2.1, ⟨hk.2.2.2.2.1, hk.2.2.2.2.2⟩⟩⟩⟩, hk.2.2.1⟩)) hg hat)
             have n8_ := Aside0.mk (Kd.R_after (ok := (fun k_ => (w.heap.size ≤ k_) ∧ some k_ ≠ (v367 : Value).ownBlock ∧ some k_ ≠ (v370 : Value).ownBlock ∧ k_ ≠ gb360 ∧ k_ ≠ gb361)) (by (with_reducible repeat (first | apply Kd.R_alloc | apply Kd.R_drewN | apply Kd.R_drew)); exact Kd.R_mono HO377.out (fun _ hk => ⟨⟨hk.1, ⟨hk.2.1, ⟨hk.2.2.1, ⟨hk.2.2.2.2.1, hk.2.2.2.2.2⟩⟩⟩⟩, hk.2.2.2.1⟩)) hg hat)
             have n9_ := Aside0.mk (hb)
             have HO380 := Aside0.mk (ho)
             clear HO_8 HO_25 BK360 BK361 HI349 HL362_0 HO368 HO371 HO377 HB HO374
             have HO_8 := n0_; have HO_25 := n1_; have BK360 := n2_; have BK361 := n3_; have HI349 := n4_; have HL362_0 := n5_; have HO368 := n6_; have HO371 := n7_; have HO377 := n8_; have HB := n9_
             clear n0_ n1_ n2_ n3_ n4_ n5_ n6_ n7_ n8_ n9_ ho hb hg hat
             obtain ⟨Ao41, co41, eo41⟩ := Kd.R_slice HO371.out
             (first | subst eo41 | (injection eo41 with f1_ f2_ f3_; have f4_ := f1_.symm; have f5_ := f3_.symm; clear f1_ f2_ f3_; subst f4_; subst f5_))
             obtain ⟨Ao42, co42, eo42⟩ := Kd.R_slice HO380.out
             (first | subst eo42 | (injection eo42 with f1_ f2_ f3_; have f4_ := f1_.symm; have f5_ := f3_.symm; clear f1_ f2_ f3_; subst f4_; subst f5_))
             refine hK.out _ _ ⟨zc BK360 0, zc BK360 1, zc BK361 0, zc BK361 1⟩ (fun hHeld => ?_)
             clear hK K
             refine norm_ (a' := ?_) ?_ ?_
             rotate_left
             ·
              show Act.put _ (some 41) _ = _
              simp only [Act.put, List.setIfInBounds_toArray, List.set_cons_zero, List.set_cons_succ, i64_w, i32_w]; rfl
             refine one_ (i := 11) (N := some 42) #[true, true, true, true, true, true, true, true, true, true, true, true, false, false] rfl rfl (one_of HT_.out (by kernel_rfl)) (by decide) (fun K hK => ?_)
             have hP0 : ∀ k_, (.slice Ao41 y369.length co41 : Value).ownBlock = some k_ → ((fun k_ => (w.heap.size ≤ k_) ∧ some k_ ≠ (.slice Ao28 x8_2.length co28 : Value).ownBlock ∧ some k_ ≠ (.slice (some ad362) x4_1.length co19 : Value).ownBlock ∧ some k_ ≠ (v367 : Value).ownBlock ∧ some k_ ≠ (.slice Ao40 y375.length co40 : Value).ownBlock ∧ k_ ≠ gb360 ∧ k_ ≠ gb361 ∧ k_ ≠ gb349)) k_ := ((Kd.R_mono (ok' := (fun k_ => (w.heap.size ≤ k_) ∧ some k_ ≠ (.slice Ao28 x8_2.length co28 : Value).ownBlock ∧ some k_ ≠ (.slice (some ad362) x4_1.length co19 : Value).ownBlock ∧ some k_ ≠ (v367 : Value).ownBlock ∧ some k_ ≠ (.slice Ao40 y375.length co40 : Value).ownBlock ∧ k_ ≠ gb360 ∧ k_ ≠ gb361 ∧ k_ ≠ gb349)) (IsS27.apart HI349.out (Kd.R_apart' (Kd.R_apart' (HO371.out) (Kd.S_typed HO_8.out) (by decide)) (Kd.S_typed HO_25.out) (by decide)) (by decide)) (fun k_ hk => ⟨hk.1.1.1.1.1, ⟨hk.1.1.2, ⟨hk.1.2, ⟨hk.1.1.1.1.2.1, ⟨hk.1.1.1.1.2.2.1, ⟨hk.1.1.1.1.2.2.2.1, ⟨hk.1.1.1.1.2.2.2.2, hk.2⟩⟩⟩⟩⟩⟩⟩))).1
             have hP1 : ∀ k_, (.slice Ao42 y378.length co42 : Value).ownBlock = some k_ → ((fun k_ => (w.heap.size ≤ k_) ∧ some k_ ≠ (.slice Ao28 x8_2.length co28 : Value).ownBlock ∧ some k_ ≠ (.slice (some ad362) x4_1.length co19 : Value).ownBlock ∧ some k_ ≠ (v367 : Value).ownBlock ∧ some k_ ≠ (.slice Ao40 y375.length co40 : Value).ownBlock ∧ k_ ≠ gb360 ∧ k_ ≠ gb361 ∧ k_ ≠ gb349)) k_ := ((Kd.R_mono (ok' := (fun k_ => (w.heap.size ≤ k_) ∧ some k_ ≠ (.slice Ao28 x8_2.length co28 : Value).ownBlock ∧ some k_ ≠ (.slice (some ad362) x4_1.length co19 : Value).ownBlock ∧ some k_ ≠ (v367 : Value).ownBlock ∧ some k_ ≠ (.slice Ao40 y375.length co40 : Value).ownBlock ∧ k_ ≠ gb360 ∧ k_ ≠ gb361 ∧ k_ ≠ gb349)) (IsS27.apart HI349.out (Kd.R_apart' (Kd.R_apart' (HO380.out) (Kd.S_typed HO_8.out) (by decide)) (Kd.S_typed HO_25.out) (by decide)) (by decide)) (fun k_ hk => ⟨hk.1.1.1.1, ⟨hk.1.1.2, ⟨hk.1.2, ⟨hk.1.1.1.2.1, ⟨hk.1.1.1.2.2.2.1, ⟨hk.1.1.1.2.2.2.2.1, ⟨hk.1.1.1.2.2.2.2.2, hk.2⟩⟩⟩⟩⟩⟩⟩))).1
             have hPx : ∀ k_, (.slice Ao41 y369.length co41 : Value).ownBlock = some k_ → (.slice Ao42 y378.length co42 : Value).ownBlock = some k_ → False := fun k_ h0_ h1_ => by have h_ := (HO380).out.1 k_ h1_; dsimp only at h_; rw [← h0_] at h_; simp only [ne_eq, not_true_eq_false, false_and, and_false] at h_
             refine Kd.S_lits_step (Kd.slice 37 k37) (w0 := w) w.heap.size 51 ?hg (N := 42) ?hd (xs := ([y369, y378] : List (List (S37)))) (inner := [.slice Ao41 y369.length co41, .slice Ao42 y378.length co42]) (ok := (fun k_ => ((fun k_ => (w.heap.size ≤ k_) ∧ some k_ ≠ (.slice Ao28 x8_2.length co28 : Value).ownBlock ∧ some k_ ≠ (.slice (some ad362) x4_1.length co19 : Value).ownBlock ∧ some k_ ≠ (v367 : Value).ownBlock ∧ some k_ ≠ (.slice Ao40 y375.length co40 : Value).ownBlock ∧ k_ ≠ gb360 ∧ k_ ≠ gb361 ∧ k_ ≠ gb349)) k_ ∧ ((.slice Ao41 y369.length co41 : Value).ownBlock = some k_ ∨ (.slice Ao42 y378.length co42 : Value).ownBlock = some k_ ∨ w39.heap.size ≤ k_))) (fun j k_ => (j = 0 ∧ (.slice Ao41 y369.length co41 : Value).ownBlock = some k_) ∨ (j = 1 ∧ (.slice Ao42 y378.length co42 : Value).ownBlock = some k_)) ?hr rfl ?hp ?ha ?ho ⟨((show ∀ k_, w39.heap.size ≤ k_ → (fun k_ => (w.heap.size ≤ k_) ∧ some k_ ≠ (.slice Ao28 x8_2.length co28 : Value).ownBlock ∧ some k_ ≠ (.slice (some ad362) x4_1.length co19 : Value).ownBlock ∧ some k_ ≠ (v367 : Value).ownBlock ∧ some k_ ≠ (.slice Ao40 y375.length co40 : Value).ownBlock ∧ k_ ≠ gb360 ∧ k_ ≠ gb361 ∧ k_ ≠ gb349) k_ from fun k_ hk => ⟨(Nat.le_trans (below_size (z44_3 HB)) hk), Kd.fresh' (Kd.S_lt (by (with_reducible repeat (first | apply Kd.S_alloc | apply Kd.S_drewN | apply Kd.S_drew)); exact HO_8.out)) k_ hk, Kd.fresh' (Kd.S_lt (by (with_reducible repeat (first | apply Kd.S_alloc | apply Kd.S_drewN | apply Kd.S_drew)); exact HO_25.out)) k_ hk, Kd.fresh' (Kd.R_lt (zq3 HO368)) k_ hk, Kd.fresh' (Kd.R_lt (zq3 HO377)) k_ hk, Kd.freshB (g := gb360) (o := .cells #[.int .i64 t355, .int .i64 t356] 37 (0, 0)) (zq1 BK360) k_ hk, Kd.freshB (g := gb361) (o := .cells #[.int .i64 t357, .int .i64 t358] 37 (0, 0)) (zq1 BK361) k_ hk, IsS27.fresh (z44_2 HI349) k_ hk⟩) _ (Nat.le_refl _)), .inr (.inr (Nat.le_refl _))⟩ (z44_3 HB) (below_size (z44_3 HB)) (by simp) ?_; (case hd => rfl); (case hg => rfl); (case hr => first | (go_simp; done) | (go_simp; rfl))
             (case hp => intro j x hx; match j, hx with | 0, hx => (injection hx with hx; subst hx; exact ⟨_, rfl, fun k_ hk => .inl ⟨rfl, hk⟩, (HO371.out).2⟩) | 1, hx => (injection hx with hx; subst hx; exact ⟨_, rfl, fun k_ hk => .inr ⟨rfl, hk⟩, (HO380.out).2⟩))
             (case ha => (rintro i j k_ (⟨rfl, h0_⟩ | ⟨rfl, h0_⟩) (⟨rfl, h1_⟩ | ⟨rfl, h1_⟩) <;> first | rfl | exact (hPx k_ h0_ h1_).elim | exact (hPx k_ h1_ h0_).elim))
             (case ho => (rintro j k_ (⟨_, h0_⟩ | ⟨_, h0_⟩) <;> first | exact ⟨hP0 k_ h0_, .inl h0_⟩ | exact ⟨hP1 k_ h0_, .inr (.inl h0_)⟩))
             clear hP0 hP1 hPx
             intro v382 w43 ho44 hbx_ hg_ hnew_
             have hb := below_none hg_
             have hbs := base_new hnew_
             clear hbx_ hg_ hnew_
             (first | rw [← Ny381.out] at ho44 | (simp only [Int.reduceToNat] at ho44; rw [← Ny381.out] at ho44))
             have n0_ := Aside0.mk (Kd.S_old (by (with_reducible repeat (first | apply Kd.S_alloc | apply Kd.S_drewN | apply Kd.S_drew)); exact HO_8.out) hb)
             have n1_ := Aside0.mk (Kd.S_elder' (by (with_reducible repeat (first | apply Kd.S_alloc | apply Kd.S_drewN | apply Kd.S_drew)); exact HO_25.out) hbs hb)
             have n2_ := Aside0.mk (Kd.V_elder' (by (with_reducible repeat (first | apply Kd.V_alloc | apply Kd.V_drewN | apply Kd.V_drew)); exact HL362_0.out) hbs hb)
             have n3_ := Aside0.mk (Kd.R_below (zq3 HO368) hb)
             have n4_ := Aside0.mk (Kd.R_below (zq3 HO377) hb)
             have HO383 := Aside0.mk (Kd.S_mono ho44 (fun _ hk => hk.1)); have HU_ := Aside0.mk ho44
             have n6_ := Aside0.mk (zbb BK360 hb)
             have n7_ := Aside0.mk (zbb BK361 hb)
             have n8_ := Aside0.mk (IsS27.below (z44_2 HI349) hb)
             have n9_ := Aside0.mk (below_step (z44_3 HB) hb)
             clear HO_8 HO_25 HL362_0 HO368 HO377 BK360 BK361 HI349 HB HO371 HO380
             have HO_8 := n0_; have HO_25 := n1_; have HL362_0 := n2_; have HO368 := n3_; have HO377 := n4_; have BK360 := n6_; have BK361 := n7_; have HI349 := n8_; have HB := n9_
             clear n0_ n1_ n2_ n3_ n4_ n6_ n7_ n8_ n9_ hb ho44 hbs
             obtain ⟨Ao46, co46, eo46⟩ := Kd.S_slice HO383.out
             (first | subst eo46 | (injection eo46 with f1_ f2_ f3_; have f4_ := f1_.symm; have f5_ := f3_.symm; clear f1_ f2_ f3_; subst f4_; subst f5_))
             refine hK.out _ _ ⟨zc BK360 0, zc BK360 1, zc BK361 0, zc BK361 1⟩ (fun hHeld => ?_)
             clear hK K
             refine norm_ (a' := ?_) ?_ ?_
             rotate_left
             ·
              show Act.put _ (some 42) _ = _
              simp only [Act.put, List.setIfInBounds_toArray, List.set_cons_zero, List.set_cons_succ, i64_w, i32_w]; rfl
             refine one_ (i := 12) (N := some 43) #[true, true, true, true, true, true, true, true, true, true, true, true, true, false] rfl rfl (one_of HT_.out (by kernel_rfl)) (by decide) (fun K hK => ?_)
             refine Kd.S_append_rows_step (Kd.slice 37 k37) (w0 := w) w.heap.size (by rfl) (.tmp 31) (.tmp 42) 57 51 (.slice none 0 0) 24 rfl Try.underlying57 info51 rfl (by decide) (by omega) (.slice Ao28 x8_2.length co28) x8_2 y381 _ _ _ (fun k_ => (w.heap.size ≤ k_) ∧ some k_ ≠ (.slice (some ad362) x4_1.length co19 : Value).ownBlock ∧ some k_ ≠ (v367 : Value).ownBlock ∧ some k_ ≠ (.slice Ao40 y375.length co40 : Value).ownBlock ∧ k_ ≠ gb360 ∧ k_ ≠ gb361 ∧ k_ ≠ gb349) (fun k_ => ((fun k_ => (w.heap.size ≤ k_) ∧ some k_ ≠ (.slice Ao28 x8_2.length co28 : Value).ownBlock ∧ some k_ ≠ (.slice (some ad362) x4_1.length co19 : Value).ownBlock ∧ some k_ ≠ (v367 : Value).ownBlock ∧ some k_ ≠ (.slice Ao40 y375.length co40 : Value).ownBlock ∧ k_ ≠ gb360 ∧ k_ ≠ gb361 ∧ k_ ≠ gb349)) k_ ∧ ((.slice Ao41 y369.length co41 : Value).ownBlock = some k_ ∨ (.slice Ao42 y378.length co42 : Value).ownBlock = some k_ ∨ w39.heap.size ≤ k_)) rfl rfl ?aO ?aR (fun k_ hk_ => ((fun k_ hk => ⟨⟨hk.1, ⟨hk.2.2.1, ⟨hk.2.2.2.1, ⟨hk.2.2.2.2.1, ⟨hk.2.2.2.2.2.1, ⟨hk.2.2.2.2.2.2.1, hk.2.2.2.2.2.2.2⟩⟩⟩⟩⟩⟩, hk.2.1⟩)) k_ hk_.1) ?aF ?aB ?aS ?aL ?_
             (case aR => exact HU_.out)
             (case aB => exact (z44_3 HB))
             (case aF => exact (fun k_ hk => ⟨(Nat.le_trans (below_size (z44_3 HB)) hk), Kd.fresh' (Kd.S_lt (by (with_reducible repeat (first | apply Kd.S_alloc | apply Kd.S_drewN | apply Kd.S_drew)); exact HO_25.out)) k_ hk, Kd.fresh' (Kd.R_lt (zq3 HO368)) k_ hk, Kd.fresh' (Kd.R_lt (zq3 HO377)) k_ hk, Kd.freshB (g := gb360) (o := .cells #[.int .i64 t355, .int .i64 t356] 37 (0, 0)) (zq1 BK360) k_ hk, Kd.freshB (g := gb361) (o := .cells #[.int .i64 t357, .int .i64 t358] 37 (0, 0)) (zq1 BK361) k_ hk, IsS27.fresh (z44_2 HI349) k_ hk⟩))
             (case aO => exact (by (with_reducible repeat (first | apply Kd.S_alloc | apply Kd.S_drewN | apply Kd.S_drew)); exact Kd.S_mono HO_8.out (fun _ hk => ⟨⟨hk.1.1.1, ⟨hk.1.1.2.1, ⟨hk.1.1.2.2.1, ⟨hk.1.1.2.2.2.2.1, ⟨hk.1.1.2.2.2.2.2.2.1, ⟨hk.1.1.2.2.2.2.2.2.2, hk.1.1.2.2.2.2.2.1⟩⟩⟩⟩⟩⟩, fun hu_ => by rcases hu_.2 with h_ | h_ | h_ <;> first | exact hk.1.2 h_.symm | exact hk.1.1.2.2.1 h_.symm | exact hk.1.1.2.2.2.1 h_.symm | exact hk.1.1.2.2.2.2.1 h_.symm | exact hk.1.1.2.2.2.2.2.1 h_.symm | exact hk.1.1.2.2.2.2.2.2.1 h_.symm | exact hk.1.1.2.1 h_.symm | exact absurd hk.2 (by omega)⟩)))
             (case aS => exact (below_size (z44_3 HB)))
             (case aL => have := LMc27.out; omega)
             intro v385 w45 ho hb hg hat
             rw [← Ny384.out] at ho
             have n0_ := Aside0.mk (Kd.S_afterv (ok := (fun k_ => (w.heap.size ≤ k_) ∧ some k_ ≠ (v367 : Value).ownBlock ∧ some k_ ≠ (.slice Ao40 y375.length co40 : Value).ownBlock ∧ some k_ ≠ (.slice Ao46 y381.length co46 : Value).ownBlock ∧ k_ ≠ gb349 ∧ k_ ≠ gb360 ∧ k_ ≠ gb361)) (by (with_reducible repeat (first | apply Kd.S_alloc | apply Kd.S_drewN | apply Kd.S_drew)); exact Kd.S_mono HO_25.out (fun _ hk => ⟨⟨hk.1.1.1, ⟨hk.1.1.2.2.1, ⟨hk.1.1.2.2.2.2.1, ⟨hk.2, ⟨hk.1.1.2.2.2.2.2.1, ⟨hk.1.1.2.2.2.2.2.2.1, hk.1.1.2.2.2.2.2.2.2⟩⟩⟩⟩⟩⟩, hk.1.1.2.1⟩)) hg hat)
             have n1_ := Aside0.mk (blk_grown (g := gb360) (o := .cells #[.int .i64 t355, .int .i64 t356] 37 (0, 0)) (zq1 BK360) hg (Kd.S_ne HO_8.out BK360.out (by decide)))
             have n2_ := Aside0.mk (blk_grown (g := gb361) (o := .cells #[.int .i64 t357, .int .i64 t358] 37 (0, 0)) (zq1 BK361) hg (Kd.S_ne HO_8.out BK361.out (by decide)))
             have n3_ := Aside0.mk (IsS27.grown (z44_2 HI349) hg (IsS27.own_neN HI349.out (Kd.S_N HO_8.out) (by decide)))
             have n4_ := Aside0.mk (Kd.V_afterv (ok := (fun k_ => (w.heap.size ≤ k_) ∧ some k_ ≠ (.slice (some ad362) x4_1.length co19 : Value).ownBlock ∧ some k_ ≠ (v367 : Value).ownBlock ∧ some k_ ≠ (.slice Ao40 y375.length co40 : Value).ownBlock ∧ some k_ ≠ (.slice Ao46 y381.length co46 : Value).ownBlock ∧ k_ ≠ gb349 ∧ k_ ≠ gb360 ∧ k_ ≠ gb361)) (by (with_reducible repeat (first | apply Kd.V_alloc | apply Kd.V_drewN | apply Kd.V_drew)); exact Kd.V_mono HL362_0.out (fun _ hk => ⟨⟨hk.1.1.1, ⟨hk.1.1.2.2.1, ⟨hk.1.1.2.2.2.1, ⟨hk.1.1.2.2.2.2.2.1, ⟨hk.2, ⟨hk.1.1.2.2.2.2.2.2.1, ⟨hk.1.1.2.2.2.2.2.2.2.1, hk.1.1.2.2.2.2.2.2.2.2⟩⟩⟩⟩⟩⟩⟩, hk.1.1.2.1⟩)) hg hat)
             have n5_ := Aside0.mk (Kd.R_over' (zq3 HO368) (Kd.S_typed (by (with_reducible repeat (first | apply Kd.S_alloc | apply Kd.S_drewN | apply Kd.S_drew)); exact HO_8.out)) (by decide) hg)
             have n6_ := Aside0.mk (Kd.R_over' (zq3 HO377) (Kd.S_typed (by (with_reducible repeat (first | apply Kd.S_alloc | apply Kd.S_drewN | apply Kd.S_drew)); exact HO_8.out)) (by decide) hg)
             have n7_ := Aside0.mk (Kd.S_afterv (ok := (fun k_ => (w.heap.size ≤ k_) ∧ some k_ ≠ (.slice (some ad362) x4_1.length co19 : Value).ownBlock ∧ some k_ ≠ (v367 : Value).ownBlock ∧ some k_ ≠ (.slice Ao40 y375.length co40 : Value).ownBlock ∧ k_ ≠ gb360 ∧ k_ ≠ gb361 ∧ k_ ≠ gb349)) (by (with_reducible repeat (first | apply Kd.S_alloc | apply Kd.S_drewN | apply Kd.S_drew)); exact Kd.S_mono HO383.out (fun _ hk => ⟨⟨hk.1, ⟨hk.2.2.1, ⟨hk.2.2.2.1, ⟨hk.2.2.2.2.1, ⟨hk.2.2.2.2.2.1, ⟨hk.2.2.2.2.2.2.1, hk.2.2.2.2.2.2.2⟩⟩⟩⟩⟩⟩, hk.2.1⟩)) hg hat)
             have n8_ := Aside0.mk (hb)
             have HO386 := Aside0.mk (ho)
             clear HO_25 BK360 BK361 HI349 HL362_0 HO368 HO377 HO383 HB HO_8 HU_
             have HO_25 := n0_; have BK360 := n1_; have BK361 := n2_; have HI349 := n3_; have HL362_0 := n4_; have HO368 := n5_; have HO377 := n6_; have HO383 := n7_; have HB := n8_
             clear n0_ n1_ n2_ n3_ n4_ n5_ n6_ n7_ n8_ ho hb hg hat
             refine hK.out _ _ ⟨zc BK360 0, zc BK360 1, zc BK361 0, zc BK361 1⟩ (fun hHeld => ?_)
             clear hK K
             refine norm_ (a' := ?_) ?_ ?_
             rotate_left
             ·
              show Act.put _ (some 43) _ = _
              simp only [Act.put, List.setIfInBounds_toArray, List.set_cons_zero, List.set_cons_succ, i64_w, i32_w]; rfl
             refine zp (i := 13) (N := some 8) #[true, true, true, true, true, true, true, true, true, true, true, true, true, true] (any_of HT_.out (by kernel_rfl)) ?_
             refine done_ (done_of HT_.out (by kernel_rfl)) ?_
             try go_wp2
             go_roundg k2
             case measure => have := HK1.out; have := HK2.out; omega
             case rel => exact ⟨(y384), (wrap64 (x27_2 + 1)), (by first | rfl | (simp; done) | (simp [*]; done)), H', ⟨by have := HK1.out; have := HK2.out; omega⟩, ⟨by (with_reducible repeat (first | apply Kd.S_alloc | apply Kd.S_drewN | apply Kd.S_drew)); exact Kd.S_mono HO386.out (fun _ hk => ⟨hk.1, ⟨hk.2.1, ⟨hk.2.2.2.2.1, ⟨hk.2.2.2.2.2.1, hk.2.2.2.2.2.2⟩⟩⟩⟩)⟩, ⟨by (with_reducible repeat (first | apply Kd.S_alloc | apply Kd.S_drewN | apply Kd.S_drew)); exact Kd.S_mono HO_25.out (fun _ hk => ⟨hk.1.1, ⟨hk.2, ⟨hk.1.2.2.2.2.2.1, ⟨hk.1.2.2.2.2.2.2, hk.1.2.2.2.2.1⟩⟩⟩⟩)⟩, ⟨by (with_reducible repeat (first | refine blk_drewN ?_ _ | refine blk_drew ?_ | refine blk_alloc ?_ _)); exact BK360.out⟩, ⟨by (with_reducible repeat (first | refine blk_drewN ?_ _ | refine blk_drew ?_ | refine blk_alloc ?_ _)); exact BK361.out⟩, ⟨(z44_2 HI349)⟩, ⟨(z44_3 HB)⟩⟩
            ·
             rw [if_neg c27] at H
             exact absurd H (by simp)
           ·
            rw [if_neg c26] at H
            exact absurd H (by simp)
          ·
           rw [if_neg c24] at H
           exact absurd H (by simp)
         ·
          rw [if_neg c22] at H
          exact absurd H (by simp)
        ·
         rw [if_neg c21] at H
         exact absurd H (by simp)
       ·
        rw [if_neg c20] at H
        have c20b0 : decide (x27_2 < (x4_1.length : Int)) = false := decide_eq_false c20
        clear c20
        have H' := Aside0.mk H
        clear H
        go_wp2
        go_roundg k2
        case measure => have := HK1.out; have := HK2.out; omega
        case rel => exact ⟨(x8_2), (wrap64 (x17_1 + 1)), (by first | rfl | (simp; done) | (simp [*]; done)), H', ⟨by have := HK1.out; have := HK2.out; omega⟩, ⟨by (with_reducible repeat (first | apply Kd.S_alloc | apply Kd.S_drewN | apply Kd.S_drew)); exact Kd.S_mono HO_8.out (fun _ hk => ⟨hk.1, hk.2.2.2.2⟩)⟩, ⟨(z44_2 HI349)⟩, ⟨(z44_3 HB)⟩⟩
    ·
     rw [if_neg c9] at H
     have c9b0 : decide (x17_1 < (l0_1.length : Int)) = false := decide_eq_false c9
     clear c9
     simp only [Option.some.injEq, Prod.mk.injEq] at H
     obtain ⟨rfl, rfl⟩ := H
     go_wp2
     go_ret2
     exact ⟨_, by first | rfl | (simp [errW_none, errW_some] <;> rfl) | (simp [*, errW_none, errW_some] <;> rfl), by (with_reducible repeat (first | apply Kd.S_alloc | apply Kd.S_drewN | apply Kd.S_drew)); exact Kd.S_mono HO_4.out (fun _ hk => hk.1), (z44_1 HB)⟩
 ·
  replace c3 := Bool.eq_false_iff.mpr c3
  subst c3
  have H1 : (some (([] : List (List (S37))), false)) = some (r1, r2) := by rw [if_neg (show ¬ (false = true) by decide)] at H; exact H
  clear H
  have H := H1
  clear H1
  simp only [Option.some.injEq, Prod.mk.injEq] at H
  obtain ⟨rfl, rfl⟩ := H
  go_enter Try.func44, Try.ntmps44
  go_wp2_with (first | ((with_reducible refine gate_dst (N := 1) rfl ?_); refine zbe (N := 1) (cs := #[.int .i64 a0_0, .slice A0_1 l0_1.length c0_1, .slice A0_2 l0_2.length c0_2]) (t := 27) ?_; intro gb349 hg w47 hbox hb; have BK349 := Aside0.mk (hbox); have GW349 := Aside0.mk (zge (zb0 HB) hg); have GE349 := GW349; replace HB := Aside0.mk (below_step (zb0 HB) hb); clear hb hbox hg; have HI349 : Aside0 (IsS27 w w47 gb349 a0_0 l0_1 l0_2) := ⟨⟨A0_1, c0_1, A0_2, c0_2, (zq1 BK349), GE349.out, HR0_1.out, HR0_2.out⟩⟩) | ((with_reducible refine gate_callee (f := 57) rfl ?_); refine goesL_ (some 11) rfl rfl Try.func57 (by kernel_rfl) rfl #[.pointer (some ⟨gb349, 0, none⟩)] rfl zq6 ?_; (with_reducible refine (impl_isBox.calls k gb349 a0_0 l0_1 l0_2 false t351 w _ ?side1 ?side2 A2.out).mono ?_); (case side1 => exact z44_0 HI349); (case side2 => exact z44_1 HB); rintro e w48 ⟨rfl, hi, hb, hk⟩; refine ⟨_, rfl, ?_⟩; replace HB := Aside0.mk (hb); replace HI349 := Aside0.mk (hi); (try clear hb); (try clear hb2); (try clear hk); (try clear hi)))
  go_ret2
  exact ⟨_, by first | rfl | (simp [errW_none, errW_some] <;> rfl) | (simp [*, errW_none, errW_some] <;> rfl), by first | exact Kd.S_nil _ _ _ _ _ | exact Kd.S_nil _ _ _ _ _ | exact Kd.V_nil _ _ _ _ _ | exact Kd.Q_nil _ _ _ _ _ | exact Kd.R_nil _ _ _ _ _, (z44_1 HB)⟩
end Go.Proofs.Ytgaoniapddpaaaa.PD
