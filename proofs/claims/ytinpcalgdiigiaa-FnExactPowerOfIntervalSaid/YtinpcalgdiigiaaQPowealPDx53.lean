-- By wip/mk/drv.py
import Derived.Test.YtinpcalgdiigiaaQPowealPDx0
import Derived.Test.YtinpcalgdiigiaaQPowealPDx1
import Derived.Test.YtinpcalgdiigiaaQPowealPDx88
namespace Go.Proofs.Ytinpcalgdiigiaa.PD
open Go.RowKit Go.Proofs.YtinpcalgdiigiaaW.PrintWords Go.Proofs.YtinpcalgdiigiaaW.PrintLast Go.Proofs.YtinpcalgdiigiaaW.PrintMore
attribute [local go_sem] max2_int min2_int max_two min_two max_three min_three max_four min_four
set_option linter.unusedVariables false
set_option linter.unusedSimpArgs false
/-! ### impl_reckoner_keep: function 112 -/
theorem z112_0 {P Q : Prop} (h : Aside0 (Q)) (f : Q → P := by intro h_; repeat (first | (with_reducible first | exact h_ | apply IsS57.alloc | apply IsS57.drewN | apply IsS57.drew | apply IsS57.set_0) | exact h_)) : P := f h.out
theorem z112_1 {w W0 W1 : World} {g : Nat} {row : Option Nat} (h : Aside0 (KeepBut w W0 g row)) (f : KeepBut w W0 g row → KeepBut w W1 g row := by intro h_; repeat (first | (with_reducible first | exact h_ | apply KeepBut.set_ | apply keep_drewN | apply keep_drew | apply keep_alloc) | exact h_)) : KeepBut w W1 g row := f h.out
theorem z112_2 {w W0 W1 : World} {B : Nat} (h : Aside0 (Below B w W0)) (f : Below B w W0 → Below B w W1 := by intro h_; repeat (first | (with_reducible first | exact h_ | apply below_alloc | apply pw_below_drewN | apply below_drew1 | refine below_set ?_ (IsS57.ge (Aside0.out (by assumption)))) | exact h_)) : Below B w W1 := f h.out
theorem z112_3 {P Q : Prop} (h : Aside0 (Q)) (f : Q → P := by intro h_; repeat (first | (with_reducible first | exact h_ | apply IsS57.alloc | apply IsS57.drewN | apply IsS57.drew | apply IsS57.set_0 | refine IsS57.far ?_ (Aside0.out (by assumption)) _) | exact h_)) : P := f h.out
theorem z112_4 {w W0 W1 : World} {g : Nat} {row : Option Nat} (h : Aside0 (KeepBut w W0 g row)) (f : KeepBut w W0 g row → KeepBut w W1 g row := by intro h_; repeat (first | (with_reducible first | exact h_ | apply KeepBut.set_ | apply keep_drewN | apply keep_drew | apply keep_alloc | refine keep_far ?_ (Aside0.out (by assumption)) _) | exact h_)) : KeepBut w W1 g row := f h.out
theorem z112_5 {w W0 W1 : World} {B : Nat} (h : Aside0 (Below B w W0)) (f : Below B w W0 → Below B w W1 := by intro h_; repeat (first | (with_reducible first | exact h_ | apply below_alloc | apply pw_below_drewN | apply below_drew1 | refine below_set ?_ (IsS57.ge (Aside0.out (by assumption))) | refine below_set ?_ (Aside0.out (by assumption))) | exact h_)) : Below B w W1 := f h.out
set_option maxHeartbeats 8000000 in
set_option maxRecDepth 100000 in
theorem impl_reckoner_keep.calls (g : Nat) (s0_0 : Bool) (a1_0 : Int) (a1_1 : Int) (a2 : Bool) (r1 : Int) (r2 : Int) (r3 : Bool) (w0 w : World) (hI : IsS57 w0 w g s0_0) (hB : Below w0.heap.size w0 w) (h : impl_reckoner_keep.f s0_0 a1_0 a1_1 a2 = some (r1, r2, r3)) :
  Calls Try.prog 112 #[.pointer (some ⟨g, 0, none⟩), .agg #[.int .i64 a1_0, .int .i64 a1_1], .bool a2] w fun e w' => e = .returned (.agg #[.int .i64 r1, .int .i64 r2]) ∧ IsS57 w0 w' g r3 ∧ Below w0.heap.size w0 w' ∧ KeepBut w w' g none := by
 have hu27 := Try.underlying27
 have HI0 := Aside0.mk hI
 have HK := Aside0.mk (KeepBut.refl w g none)
 have HL := Aside0.mk hB.size
 clear hI
 have HW0 := Aside0.mk hB.size
 have HB := Aside0.mk hB
 clear hB
 have H : (if s0_0 = true then (if a2 = true then (some (a1_0, a1_1, a2)) else (some (0, 0, a2))) else (some (0, 0, false))) = some (r1, r2, r3) := h
 clear h
 by_cases c4 : s0_0 = true
 ·
  subst c4
  have H1 : (if a2 = true then (some (a1_0, a1_1, a2)) else (some (0, 0, a2))) = some (r1, r2, r3) := by rw [if_pos rfl] at H; exact H
  clear H
  have H := H1
  clear H1
  by_cases c5 : a2 = true
  ·
   subst c5
   have H1 : (some (a1_0, a1_1, true)) = some (r1, r2, r3) := by rw [if_pos rfl] at H; exact H
   clear H
   have H := H1
   clear H1
   simp only [Option.some.injEq, Prod.mk.injEq] at H
   obtain ⟨rfl, rfl, rfl⟩ := H
   go_enter Try.func112, Try.ntmps112
   go_wp2_with (first | ((with_reducible refine gate_dst (N := 4) rfl ?_); refine zbe (N := 4) (cs := #[.int .i64 a1_0, .int .i64 a1_1]) (t := 27) ?_; intro gb631 hg w6 hbox hb; have BK631 := Aside0.mk (hbox); have GW631 := Aside0.mk ((by rw [hg]; exact (keep_size (w := w) (g := g) (row := none) (z112_1 HK)) : w.heap.size ≤ gb631)); have GE631 := Aside0.mk ((Nat.le_trans HW0.out (by rw [hg]; exact (keep_size (w := w) (g := g) (row := none) (z112_1 HK)) : w.heap.size ≤ gb631) : w0.heap.size ≤ gb631)); have NB0_631 := Aside0.mk ((by rw [hg]; exact Nat.ne_of_lt (IsS57.lt (show IsS57 w0 _ g true from (z112_0 HI0))) : g ≠ gb631)); have NB631_0 := Aside0.mk ((by rw [hg]; exact Nat.ne_of_gt (IsS57.lt (show IsS57 w0 _ g true from (z112_0 HI0))) : gb631 ≠ g)); replace HI0 := Aside0.mk (IsS57.below (z112_0 HI0) hb); replace HK := Aside0.mk (KeepBut.trans (z112_1 HK) (KeepBut.of_below hb g none) (.inl rfl)); replace HB := Aside0.mk (below_step (z112_2 HB) hb); clear hb hbox hg) | ((with_reducible refine gate_dst (N := 6) rfl ?_); refine zbe (N := 6) (cs := #[.int .i64 0, .int .i64 0]) (t := 27) ?_; intro gb632 hg w7 hbox hb; have BK632 := Aside0.mk (hbox); have GW632 := Aside0.mk ((by rw [hg]; exact (keep_size (w := w) (g := g) (row := none) (z112_4 HK)) : w.heap.size ≤ gb632)); have GE632 := Aside0.mk ((Nat.le_trans HW0.out (by rw [hg]; exact (keep_size (w := w) (g := g) (row := none) (z112_4 HK)) : w.heap.size ≤ gb632) : w0.heap.size ≤ gb632)); have NB631_632 := Aside0.mk (zlt BK631 hg); have NB632_631 := Aside0.mk (zgt BK631 hg); have NB0_632 := Aside0.mk ((by rw [hg]; exact Nat.ne_of_lt (IsS57.lt (show IsS57 w0 _ g true from (z112_3 HI0))) : g ≠ gb632)); have NB632_0 := Aside0.mk ((by rw [hg]; exact Nat.ne_of_gt (IsS57.lt (show IsS57 w0 _ g true from (z112_3 HI0))) : gb632 ≠ g)); replace HI0 := Aside0.mk (IsS57.below (z112_3 HI0) hb); replace BK631 := Aside0.mk (zbb BK631 hb); replace HK := Aside0.mk (KeepBut.trans (z112_4 HK) (KeepBut.of_below hb g none) (.inl rfl)); replace HB := Aside0.mk (below_step (z112_5 HB) hb); clear hb hbox hg; obtain ⟨HGz8, hgz8⟩ := HI0.out; have hcz8_0 := cellS57_0 HGz8; have hfz8_0 := blk_frozen HGz8 0; clear HGz8 hgz8; have hnb9 := NB631_632.out; have hnc9 := NB632_631.out; have hnb10 := NB631_0.out; have hnc10 := NB0_631.out; have hcz11_0 : w7.cell? ⟨gb631, 0, none⟩ = some (.int .i64 a1_0) := zc BK631 0; have hcz11_1 : w7.cell? ⟨gb631, 1, none⟩ = some (.int .i64 a1_1) := zc BK631 1; have hfz11_0 := blk_frozen BK631.out 0; have hfz11_1 := blk_frozen BK631.out 1; have hnb12 := NB632_0.out; have hnc12 := NB0_632.out; have hcz13_0 : w7.cell? ⟨gb632, 0, none⟩ = some (.int .i64 0) := zc BK632 0; have hcz13_1 : w7.cell? ⟨gb632, 1, none⟩ = some (.int .i64 0) := zc BK632 1; have hfz13_0 := blk_frozen BK632.out 0; have hfz13_1 := blk_frozen BK632.out 1))
   refine bodyPost_ret (results_cell_row rfl _ _ gb632 27 #[.int .i64 a1_0, .int .i64 a1_1] (0, 0) _ rfl (by (with_reducible repeat (first | refine blk_drewN ?_ _ | refine blk_drew ?_ | refine blk_alloc ?_ _)); refine blk_put (cs := #[.int .i64 a1_0, .int .i64 0]) ?_ 1 _ rfl; (with_reducible repeat (first | refine blk_drewN ?_ _ | refine blk_drew ?_ | refine blk_alloc ?_ _)); refine blk_put (cs := #[.int .i64 0, .int .i64 0]) ?_ 0 _ rfl; (with_reducible repeat (first | refine blk_drewN ?_ _ | refine blk_drew ?_ | refine blk_alloc ?_ _)); refine blk_far ?_ NB632_0.out _; (with_reducible repeat (first | refine blk_drewN ?_ _ | refine blk_drew ?_ | refine blk_alloc ?_ _)); exact BK632.out) Try.underlying27 rfl (by kernel_rfl)) rfl ?_
   exact ⟨by first | rfl | (simp [errW_none, errW_some] <;> rfl) | (simp [*, errW_none, errW_some] <;> rfl), (z112_3 HI0), (z112_5 HB), (z112_4 HK)⟩
  ·
   replace c5 := Bool.eq_false_iff.mpr c5
   subst c5
   have H1 : (some (0, 0, false)) = some (r1, r2, r3) := by rw [if_neg (show ¬ (false = true) by decide)] at H; exact H
   clear H
   have H := H1
   clear H1
   simp only [Option.some.injEq, Prod.mk.injEq] at H
   obtain ⟨rfl, rfl, rfl⟩ := H
   go_enter Try.func112, Try.ntmps112
   go_wp2_with (first | ((with_reducible refine gate_dst (N := 4) rfl ?_); refine zbe (N := 4) (cs := #[.int .i64 a1_0, .int .i64 a1_1]) (t := 27) ?_; intro gb631 hg w14 hbox hb; have BK631 := Aside0.mk (hbox); have GW631 := Aside0.mk ((by rw [hg]; exact (keep_size (w := w) (g := g) (row := none) (z112_1 HK)) : w.heap.size ≤ gb631)); have GE631 := Aside0.mk ((Nat.le_trans HW0.out (by rw [hg]; exact (keep_size (w := w) (g := g) (row := none) (z112_1 HK)) : w.heap.size ≤ gb631) : w0.heap.size ≤ gb631)); have NB0_631 := Aside0.mk ((by rw [hg]; exact Nat.ne_of_lt (IsS57.lt (show IsS57 w0 _ g true from (z112_0 HI0))) : g ≠ gb631)); have NB631_0 := Aside0.mk ((by rw [hg]; exact Nat.ne_of_gt (IsS57.lt (show IsS57 w0 _ g true from (z112_0 HI0))) : gb631 ≠ g)); replace HI0 := Aside0.mk (IsS57.below (z112_0 HI0) hb); replace HK := Aside0.mk (KeepBut.trans (z112_1 HK) (KeepBut.of_below hb g none) (.inl rfl)); replace HB := Aside0.mk (below_step (z112_2 HB) hb); clear hb hbox hg) | ((with_reducible refine gate_dst (N := 6) rfl ?_); refine zbe (N := 6) (cs := #[.int .i64 0, .int .i64 0]) (t := 27) ?_; intro gb632 hg w15 hbox hb; have BK632 := Aside0.mk (hbox); have GW632 := Aside0.mk ((by rw [hg]; exact (keep_size (w := w) (g := g) (row := none) (z112_4 HK)) : w.heap.size ≤ gb632)); have GE632 := Aside0.mk ((Nat.le_trans HW0.out (by rw [hg]; exact (keep_size (w := w) (g := g) (row := none) (z112_4 HK)) : w.heap.size ≤ gb632) : w0.heap.size ≤ gb632)); have NB631_632 := Aside0.mk (zlt BK631 hg); have NB632_631 := Aside0.mk (zgt BK631 hg); have NB0_632 := Aside0.mk ((by rw [hg]; exact Nat.ne_of_lt (IsS57.lt (show IsS57 w0 _ g true from (z112_3 HI0))) : g ≠ gb632)); have NB632_0 := Aside0.mk ((by rw [hg]; exact Nat.ne_of_gt (IsS57.lt (show IsS57 w0 _ g true from (z112_3 HI0))) : gb632 ≠ g)); replace HI0 := Aside0.mk (IsS57.below (z112_3 HI0) hb); replace BK631 := Aside0.mk (zbb BK631 hb); replace HK := Aside0.mk (KeepBut.trans (z112_4 HK) (KeepBut.of_below hb g none) (.inl rfl)); replace HB := Aside0.mk (below_step (z112_5 HB) hb); clear hb hbox hg; obtain ⟨HGz16, hgz16⟩ := HI0.out; have hcz16_0 := cellS57_0 HGz16; have hfz16_0 := blk_frozen HGz16 0; clear HGz16 hgz16; have hnb17 := NB632_631.out; have hnc17 := NB631_632.out; have hnb18 := NB632_0.out; have hnc18 := NB0_632.out; have hcz19_0 : w15.cell? ⟨gb632, 0, none⟩ = some (.int .i64 0) := zc BK632 0; have hcz19_1 : w15.cell? ⟨gb632, 1, none⟩ = some (.int .i64 0) := zc BK632 1; have hfz19_0 := blk_frozen BK632.out 0; have hfz19_1 := blk_frozen BK632.out 1))
   refine bodyPost_ret (results_cell_row rfl _ _ gb632 27 #[.int .i64 0, .int .i64 0] (0, 0) _ rfl (by (with_reducible repeat (first | refine blk_drewN ?_ _ | refine blk_drew ?_ | refine blk_alloc ?_ _)); refine blk_put (cs := #[.int .i64 0, .int .i64 0]) ?_ 1 _ rfl; (with_reducible repeat (first | refine blk_drewN ?_ _ | refine blk_drew ?_ | refine blk_alloc ?_ _)); refine blk_put (cs := #[.int .i64 0, .int .i64 0]) ?_ 0 _ rfl; (with_reducible repeat (first | refine blk_drewN ?_ _ | refine blk_drew ?_ | refine blk_alloc ?_ _)); refine blk_far ?_ NB632_0.out _; (with_reducible repeat (first | refine blk_drewN ?_ _ | refine blk_drew ?_ | refine blk_alloc ?_ _)); exact BK632.out) Try.underlying27 rfl (by kernel_rfl)) rfl ?_
   exact ⟨by first | rfl | (simp [errW_none, errW_some] <;> rfl) | (simp [*, errW_none, errW_some] <;> rfl), (z112_3 HI0), (z112_5 HB), (z112_4 HK)⟩
 ·
  replace c4 := Bool.eq_false_iff.mpr c4
  subst c4
  have H1 : (some (0, 0, false)) = some (r1, r2, r3) := by rw [if_neg (show ¬ (false = true) by decide)] at H; exact H
  clear H
  have H := H1
  clear H1
  simp only [Option.some.injEq, Prod.mk.injEq] at H
  obtain ⟨rfl, rfl, rfl⟩ := H
  go_enter Try.func112, Try.ntmps112
  go_wp2_with (first | ((with_reducible refine gate_dst (N := 4) rfl ?_); refine zbe (N := 4) (cs := #[.int .i64 a1_0, .int .i64 a1_1]) (t := 27) ?_; intro gb631 hg w20 hbox hb; have BK631 := Aside0.mk (hbox); have GW631 := Aside0.mk ((by rw [hg]; exact (keep_size (w := w) (g := g) (row := none) (z112_1 HK)) : w.heap.size ≤ gb631)); have GE631 := Aside0.mk ((Nat.le_trans HW0.out (by rw [hg]; exact (keep_size (w := w) (g := g) (row := none) (z112_1 HK)) : w.heap.size ≤ gb631) : w0.heap.size ≤ gb631)); have NB0_631 := Aside0.mk ((by rw [hg]; exact Nat.ne_of_lt (IsS57.lt (show IsS57 w0 _ g false from (z112_0 HI0))) : g ≠ gb631)); have NB631_0 := Aside0.mk ((by rw [hg]; exact Nat.ne_of_gt (IsS57.lt (show IsS57 w0 _ g false from (z112_0 HI0))) : gb631 ≠ g)); replace HI0 := Aside0.mk (IsS57.below (z112_0 HI0) hb); replace HK := Aside0.mk (KeepBut.trans (z112_1 HK) (KeepBut.of_below hb g none) (.inl rfl)); replace HB := Aside0.mk (below_step (z112_2 HB) hb); clear hb hbox hg) | ((with_reducible refine gate_dst (N := 6) rfl ?_); refine zbe (N := 6) (cs := #[.int .i64 0, .int .i64 0]) (t := 27) ?_; intro gb632 hg w21 hbox hb; have BK632 := Aside0.mk (hbox); have GW632 := Aside0.mk ((by rw [hg]; exact (keep_size (w := w) (g := g) (row := none) (z112_4 HK)) : w.heap.size ≤ gb632)); have GE632 := Aside0.mk ((Nat.le_trans HW0.out (by rw [hg]; exact (keep_size (w := w) (g := g) (row := none) (z112_4 HK)) : w.heap.size ≤ gb632) : w0.heap.size ≤ gb632)); have NB631_632 := Aside0.mk (zlt BK631 hg); have NB632_631 := Aside0.mk (zgt BK631 hg); have NB0_632 := Aside0.mk ((by rw [hg]; exact Nat.ne_of_lt (IsS57.lt (show IsS57 w0 _ g false from (z112_3 HI0))) : g ≠ gb632)); have NB632_0 := Aside0.mk ((by rw [hg]; exact Nat.ne_of_gt (IsS57.lt (show IsS57 w0 _ g false from (z112_3 HI0))) : gb632 ≠ g)); replace HI0 := Aside0.mk (IsS57.below (z112_3 HI0) hb); replace BK631 := Aside0.mk (zbb BK631 hb); replace HK := Aside0.mk (KeepBut.trans (z112_4 HK) (KeepBut.of_below hb g none) (.inl rfl)); replace HB := Aside0.mk (below_step (z112_5 HB) hb); clear hb hbox hg; obtain ⟨HGz22, hgz22⟩ := HI0.out; have hcz22_0 := cellS57_0 HGz22; have hfz22_0 := blk_frozen HGz22 0; clear HGz22 hgz22; have hnb23 := NB632_631.out; have hnc23 := NB631_632.out; have hnb24 := NB632_0.out; have hnc24 := NB0_632.out; have hcz25_0 : w21.cell? ⟨gb632, 0, none⟩ = some (.int .i64 0) := zc BK632 0; have hcz25_1 : w21.cell? ⟨gb632, 1, none⟩ = some (.int .i64 0) := zc BK632 1; have hfz25_0 := blk_frozen BK632.out 0; have hfz25_1 := blk_frozen BK632.out 1))
  refine bodyPost_ret (results_cell_row rfl _ _ gb632 27 #[.int .i64 0, .int .i64 0] (0, 0) _ rfl (by (with_reducible repeat (first | refine blk_drewN ?_ _ | refine blk_drew ?_ | refine blk_alloc ?_ _)); refine blk_put (cs := #[.int .i64 0, .int .i64 0]) ?_ 1 _ rfl; (with_reducible repeat (first | refine blk_drewN ?_ _ | refine blk_drew ?_ | refine blk_alloc ?_ _)); refine blk_put (cs := #[.int .i64 0, .int .i64 0]) ?_ 0 _ rfl; (with_reducible repeat (first | refine blk_drewN ?_ _ | refine blk_drew ?_ | refine blk_alloc ?_ _)); refine blk_far ?_ NB632_0.out _; (with_reducible repeat (first | refine blk_drewN ?_ _ | refine blk_drew ?_ | refine blk_alloc ?_ _)); exact BK632.out) Try.underlying27 rfl (by kernel_rfl)) rfl ?_
  exact ⟨by first | rfl | (simp [errW_none, errW_some] <;> rfl) | (simp [*, errW_none, errW_some] <;> rfl), (z112_3 HI0), (z112_5 HB), (z112_4 HK)⟩
end Go.Proofs.Ytinpcalgdiigiaa.PD
