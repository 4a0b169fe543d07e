-- By wip/mk/drv.py
import Derived.Test.YtinpcalgdiigiaaQPowealPDx0
import Derived.Test.YtinpcalgdiigiaaQPowealPDx1
import Derived.Test.YtinpcalgdiigiaaQPowealPDx3
import Derived.Test.YtinpcalgdiigiaaQPowealPDx88
namespace Go.Proofs.Ytinpcalgdiigiaa.PD
open Go.RowKit Go.Proofs.YtinpcalgdiigiaaW.PrintWords Go.Proofs.YtinpcalgdiigiaaW.PrintLast Go.Proofs.YtinpcalgdiigiaaW.PrintMore
attribute [local go_sem] max2_int min2_int max_two min_two max_three min_three max_four min_four
set_option linter.unusedVariables false
set_option linter.unusedSimpArgs false
/-! ### impl_minus: function 61 -/
set_option maxHeartbeats 8000000 in
set_option maxRecDepth 100000 in
theorem impl_minus.calls (a0_0 : Int) (a0_1 : Int) (r1 : Int) (r2 : Int) (w : World) (h : impl_minus.f a0_0 a0_1 = some (r1, r2)) :
  Calls Try.prog 61 #[.agg #[.int .i64 a0_0, .int .i64 a0_1]] w fun e w' => e = .returned (.agg #[.int .i64 r1, .int .i64 r2]) ∧ Below w.heap.size w w' := by
 have hu27 := Try.underlying27
 have HB := Aside0.mk (Below.refl w.heap.size w)
 have H : (some (wrap64 (-a0_0), a0_1)) = some (r1, r2) := h
 clear h
 simp only [Option.some.injEq, Prod.mk.injEq] at H
 obtain ⟨rfl, rfl⟩ := H
 go_enter Try.func61, Try.ntmps61
 go_wp2_with (first | ((with_reducible refine gate_dst (N := 1) rfl ?_); refine zbe (N := 1) (cs := #[.int .i64 a0_0, .int .i64 a0_1]) (t := 27) ?_; intro gb456 hg w2 hbox hb; have BK456 := Aside0.mk (hbox); have GW456 := Aside0.mk (zge (zb0 HB) hg); have GE456 := GW456; replace HB := Aside0.mk (below_step (zb0 HB) hb); clear hb hbox hg) | ((with_reducible refine gate_dst (N := 2) rfl ?_); refine zbe (N := 2) (cs := #[.int .i64 0, .int .i64 0]) (t := 27) ?_; intro gb457 hg w3 hbox hb; have BK457 := Aside0.mk (hbox); have GW457 := Aside0.mk (zge (zb1 HB) hg); have GE457 := GW457; have NB456_457 := Aside0.mk (zlt BK456 hg); have NB457_456 := Aside0.mk (zgt BK456 hg); replace BK456 := Aside0.mk (zbb BK456 hb); replace HB := Aside0.mk (below_step (zb1 HB) hb); clear hb hbox hg; have hnb4 := NB456_457.out; have hnc4 := NB457_456.out; have hcz5_0 : w3.cell? ⟨gb456, 0, none⟩ = some (.int .i64 a0_0) := zc BK456 0; have hcz5_1 : w3.cell? ⟨gb456, 1, none⟩ = some (.int .i64 a0_1) := zc BK456 1; have hfz5_0 := blk_frozen BK456.out 0; have hfz5_1 := blk_frozen BK456.out 1; have hcz6_0 : w3.cell? ⟨gb457, 0, none⟩ = some (.int .i64 0) := zc BK457 0; have hcz6_1 : w3.cell? ⟨gb457, 1, none⟩ = some (.int .i64 0) := zc BK457 1; have hfz6_0 := blk_frozen BK457.out 0; have hfz6_1 := blk_frozen BK457.out 1))
 refine bodyPost_ret (results_cell_row rfl _ _ gb457 27 #[.int .i64 (wrap64 (-a0_0)), .int .i64 a0_1] (0, 0) _ rfl (by (with_reducible repeat (first | refine blk_drewN ?_ _ | refine blk_drew ?_ | refine blk_alloc ?_ _)); refine blk_put (cs := #[.int .i64 (wrap64 (-a0_0)), .int .i64 0]) ?_ 1 _ rfl; (with_reducible repeat (first | refine blk_drewN ?_ _ | refine blk_drew ?_ | refine blk_alloc ?_ _)); refine blk_put (cs := #[.int .i64 0, .int .i64 0]) ?_ 0 _ rfl; (with_reducible repeat (first | refine blk_drewN ?_ _ | refine blk_drew ?_ | refine blk_alloc ?_ _)); exact BK457.out) Try.underlying27 rfl (by kernel_rfl)) rfl ?_
 exact ⟨by first | rfl | (simp [errW_none, errW_some] <;> rfl) | (simp [*, errW_none, errW_some] <;> rfl), (zb1 HB)⟩
/-! ### spec_l1Most: function 109 -/
set_option maxHeartbeats 8000000 in
set_option maxRecDepth 100000 in
theorem spec_l1Most.calls (a0 : Int) (a1 : Int) (r : Int) (w : World) (h : spec_l1Most.f a0 a1 = some r) :
  Calls Try.prog 109 #[.int .i64 a0, .int .i64 a1] w fun e w' => e = .returned (.int .i64 r) ∧ Drawn0 w w' := by
 have H : (if a0 > a1 then (some a0) else (some a1)) = some r := h
 clear h
 by_cases c3 : a0 > a1
 ·
  rw [if_pos c3] at H
  have c3b0 : decide (a1 < a0) = true := decide_eq_true c3
  clear c3
  obtain rfl := Option.some.inj H
  go_enter Try.func109, Try.ntmps109
  go_wp2
  go_ret
  exact ⟨by first | rfl | (simp; done) | (simp [*]; done), by repeat (first | exact Drawn0.refl _ | apply Drawn0.step)⟩
 ·
  rw [if_neg c3] at H
  have c3b0 : decide (a1 < a0) = false := decide_eq_false c3
  clear c3
  obtain rfl := Option.some.inj H
  go_enter Try.func109, Try.ntmps109
  go_wp2
  go_ret
  exact ⟨by first | rfl | (simp; done) | (simp [*]; done), by repeat (first | exact Drawn0.refl _ | apply Drawn0.step)⟩
/-! ### bits_Add64: function 110 -/
-- PROOF
/-! ### bits_Sub64: function 111 -/
-- PROOF
/-! ### spec_ivBoth: function 90 -/
/-! ### impl_reckoner_result: function 63 -/
theorem z63_0 {P Q : Prop} (h : Aside0 (Q)) (f : Q → P := by intro h_; repeat (first | (with_reducible first | exact h_ | apply IsS57.alloc | apply IsS57.drewN | apply IsS57.drew | apply IsS57.set_0) | exact h_)) : P := f h.out
theorem z63_1 {w W0 W1 : World} {g : Nat} {row : Option Nat} (h : Aside0 (KeepBut w W0 g row)) (f : KeepBut w W0 g row → KeepBut w W1 g row := by intro h_; repeat (first | (with_reducible first | exact h_ | apply KeepBut.set_ | apply keep_drewN | apply keep_drew | apply keep_alloc) | exact h_)) : KeepBut w W1 g row := f h.out
theorem z63_2 {w W0 W1 : World} {B : Nat} (h : Aside0 (Below B w W0)) (f : Below B w W0 → Below B w W1 := by intro h_; repeat (first | (with_reducible first | exact h_ | apply below_alloc | apply pw_below_drewN | apply below_drew1 | refine below_set ?_ (IsS57.ge (Aside0.out (by assumption)))) | exact h_)) : Below B w W1 := f h.out
theorem z63_3 {P Q : Prop} (h : Aside0 (Q)) (f : Q → P := by intro h_; repeat (first | (with_reducible first | exact h_ | apply IsS57.alloc | apply IsS57.drewN | apply IsS57.drew | apply IsS57.set_0 | refine IsS57.far ?_ (Aside0.out (by assumption)) _) | exact h_)) : P := f h.out
theorem z63_4 {w W0 W1 : World} {g : Nat} {row : Option Nat} (h : Aside0 (KeepBut w W0 g row)) (f : KeepBut w W0 g row → KeepBut w W1 g row := by intro h_; repeat (first | (with_reducible first | exact h_ | apply KeepBut.set_ | apply keep_drewN | apply keep_drew | apply keep_alloc | refine keep_far ?_ (Aside0.out (by assumption)) _) | exact h_)) : KeepBut w W1 g row := f h.out
theorem z63_5 {w W0 W1 : World} {B : Nat} (h : Aside0 (Below B w W0)) (f : Below B w W0 → Below B w W1 := by intro h_; repeat (first | (with_reducible first | exact h_ | apply below_alloc | apply pw_below_drewN | apply below_drew1 | refine below_set ?_ (IsS57.ge (Aside0.out (by assumption))) | refine below_set ?_ (Aside0.out (by assumption))) | exact h_)) : Below B w W1 := f h.out
set_option maxHeartbeats 8000000 in
set_option maxRecDepth 100000 in
theorem impl_reckoner_result.calls (g : Nat) (s0_0 : Bool) (a1_0 : Int) (a1_1 : Int) (a1_2 : Int) (a1_3 : Int) (r1 : Int) (r2 : Int) (r3 : Int) (r4 : Int) (r5 : Bool) (r6 : Bool) (w0 w : World) (hI : IsS57 w0 w g s0_0) (hB : Below w0.heap.size w0 w) (h : impl_reckoner_result.f s0_0 a1_0 a1_1 a1_2 a1_3 = some (r1, r2, r3, r4, r5, r6)) :
  Calls Try.prog 63 #[.pointer (some ⟨g, 0, none⟩), .agg #[.int .i64 a1_0, .int .i64 a1_1, .int .i64 a1_2, .int .i64 a1_3]] w fun e w' => e = .returned (.tuple #[.agg #[.int .i64 r1, .int .i64 r2, .int .i64 r3, .int .i64 r4], .bool r5]) ∧ IsS57 w0 w' g r6 ∧ Below w0.heap.size w0 w' ∧ KeepBut w w' g none := by
 have hu29 := Try.underlying29
 have HI0 := Aside0.mk hI
 have HK := Aside0.mk (KeepBut.refl w g none)
 have HL := Aside0.mk hB.size
 clear hI
 have HW0 := Aside0.mk hB.size
 have HB := Aside0.mk hB
 clear hB
 have H : (if s0_0 = true then (some (a1_0, a1_1, a1_2, a1_3, true, s0_0)) else (some (0, 0, 0, 0, false, s0_0))) = some (r1, r2, r3, r4, r5, r6) := h
 clear h
 by_cases c3 : s0_0 = true
 ·
  subst c3
  have H1 : (some (a1_0, a1_1, a1_2, a1_3, true, true)) = some (r1, r2, r3, r4, r5, r6) := by rw [if_pos rfl] at H; exact H
  clear H
  have H := H1
  clear H1
  simp only [Option.some.injEq, Prod.mk.injEq] at H
  obtain ⟨rfl, rfl, rfl, rfl, rfl, rfl⟩ := H
  go_enter Try.func63, Try.ntmps63
  go_wp2_with (first | ((with_reducible refine gate_dst (N := 3) rfl ?_); refine zbe (N := 3) (cs := #[.int .i64 a1_0, .int .i64 a1_1, .int .i64 a1_2, .int .i64 a1_3]) (t := 29) ?_; intro gb629 hg w4 hbox hb; have BK629 := Aside0.mk (hbox); have GW629 := Aside0.mk ((by rw [hg]; exact (keep_size (w := w) (g := g) (row := none) (z63_1 HK)) : w.heap.size ≤ gb629)); have GE629 := Aside0.mk ((Nat.le_trans HW0.out (by rw [hg]; exact (keep_size (w := w) (g := g) (row := none) (z63_1 HK)) : w.heap.size ≤ gb629) : w0.heap.size ≤ gb629)); have NB0_629 := Aside0.mk ((by rw [hg]; exact Nat.ne_of_lt (IsS57.lt (show IsS57 w0 _ g true from (z63_0 HI0))) : g ≠ gb629)); have NB629_0 := Aside0.mk ((by rw [hg]; exact Nat.ne_of_gt (IsS57.lt (show IsS57 w0 _ g true from (z63_0 HI0))) : gb629 ≠ g)); replace HI0 := Aside0.mk (IsS57.below (z63_0 HI0) hb); replace HK := Aside0.mk (KeepBut.trans (z63_1 HK) (KeepBut.of_below hb g none) (.inl rfl)); replace HB := Aside0.mk (below_step (z63_2 HB) hb); clear hb hbox hg) | ((with_reducible refine gate_dst (N := 4) rfl ?_); refine zbe (N := 4) (cs := #[.int .i64 0, .int .i64 0, .int .i64 0, .int .i64 0]) (t := 29) ?_; intro gb630 hg w5 hbox hb; have BK630 := Aside0.mk (hbox); have GW630 := Aside0.mk ((by rw [hg]; exact (keep_size (w := w) (g := g) (row := none) (z63_4 HK)) : w.heap.size ≤ gb630)); have GE630 := Aside0.mk ((Nat.le_trans HW0.out (by rw [hg]; exact (keep_size (w := w) (g := g) (row := none) (z63_4 HK)) : w.heap.size ≤ gb630) : w0.heap.size ≤ gb630)); have NB629_630 := Aside0.mk (zlt BK629 hg); have NB630_629 := Aside0.mk (zgt BK629 hg); have NB0_630 := Aside0.mk ((by rw [hg]; exact Nat.ne_of_lt (IsS57.lt (show IsS57 w0 _ g true from (z63_3 HI0))) : g ≠ gb630)); have NB630_0 := Aside0.mk ((by rw [hg]; exact Nat.ne_of_gt (IsS57.lt (show IsS57 w0 _ g true from (z63_3 HI0))) : gb630 ≠ g)); replace HI0 := Aside0.mk (IsS57.below (z63_3 HI0) hb); replace BK629 := Aside0.mk (zbb BK629 hb); replace HK := Aside0.mk (KeepBut.trans (z63_4 HK) (KeepBut.of_below hb g none) (.inl rfl)); replace HB := Aside0.mk (below_step (z63_5 HB) hb); clear hb hbox hg; obtain ⟨HGz6, hgz6⟩ := HI0.out; have hcz6_0 := cellS57_0 HGz6; have hfz6_0 := blk_frozen HGz6 0; clear HGz6 hgz6; have hnb7 := NB629_630.out; have hnc7 := NB630_629.out; have hnb8 := NB629_0.out; have hnc8 := NB0_629.out; have hcz9_0 : w5.cell? ⟨gb629, 0, none⟩ = some (.int .i64 a1_0) := zc BK629 0; have hcz9_1 : w5.cell? ⟨gb629, 1, none⟩ = some (.int .i64 a1_1) := zc BK629 1; have hcz9_2 : w5.cell? ⟨gb629, 2, none⟩ = some (.int .i64 a1_2) := zc BK629 2; have hcz9_3 : w5.cell? ⟨gb629, 3, none⟩ = some (.int .i64 a1_3) := zc BK629 3; have hfz9_0 := blk_frozen BK629.out 0; have hfz9_1 := blk_frozen BK629.out 1; have hfz9_2 := blk_frozen BK629.out 2; have hfz9_3 := blk_frozen BK629.out 3; have hnb10 := NB630_0.out; have hnc10 := NB0_630.out; have hcz11_0 : w5.cell? ⟨gb630, 0, none⟩ = some (.int .i64 0) := zc BK630 0; have hcz11_1 : w5.cell? ⟨gb630, 1, none⟩ = some (.int .i64 0) := zc BK630 1; have hcz11_2 : w5.cell? ⟨gb630, 2, none⟩ = some (.int .i64 0) := zc BK630 2; have hcz11_3 : w5.cell? ⟨gb630, 3, none⟩ = some (.int .i64 0) := zc BK630 3; have hfz11_0 := blk_frozen BK630.out 0; have hfz11_1 := blk_frozen BK630.out 1; have hfz11_2 := blk_frozen BK630.out 2; have hfz11_3 := blk_frozen BK630.out 3))
  refine bodyPost_ret (results_ct rfl _ _ gb630 29 #[.int .i64 a1_0, .int .i64 a1_1, .int .i64 a1_2, .int .i64 a1_3] (0, 0) _ rfl (by (with_reducible repeat (first | refine blk_drewN ?_ _ | refine blk_drew ?_ | refine blk_alloc ?_ _)); refine blk_put (cs := #[.int .i64 a1_0, .int .i64 a1_1, .int .i64 a1_2, .int .i64 0]) ?_ 3 _ rfl; (with_reducible repeat (first | refine blk_drewN ?_ _ | refine blk_drew ?_ | refine blk_alloc ?_ _)); refine blk_put (cs := #[.int .i64 a1_0, .int .i64 a1_1, .int .i64 0, .int .i64 0]) ?_ 2 _ rfl; (with_reducible repeat (first | refine blk_drewN ?_ _ | refine blk_drew ?_ | refine blk_alloc ?_ _)); refine blk_put (cs := #[.int .i64 a1_0, .int .i64 0, .int .i64 0, .int .i64 0]) ?_ 1 _ rfl; (with_reducible repeat (first | refine blk_drewN ?_ _ | refine blk_drew ?_ | refine blk_alloc ?_ _)); refine blk_put (cs := #[.int .i64 0, .int .i64 0, .int .i64 0, .int .i64 0]) ?_ 0 _ rfl; (with_reducible repeat (first | refine blk_drewN ?_ _ | refine blk_drew ?_ | refine blk_alloc ?_ _)); exact BK630.out) Try.underlying29 rfl (by kernel_rfl)) rfl ?_
  exact ⟨by first | rfl | (simp [errW_none, errW_some] <;> rfl) | (simp [*, errW_none, errW_some] <;> rfl), (z63_3 HI0), (z63_5 HB), (z63_4 HK)⟩
 ·
  replace c3 := Bool.eq_false_iff.mpr c3
  subst c3
  have H1 : (some (0, 0, 0, 0, false, false)) = some (r1, r2, r3, r4, r5, r6) := by rw [if_neg (show ¬ (false = true) by decide)] at H; exact H
  clear H
  have H := H1
  clear H1
  simp only [Option.some.injEq, Prod.mk.injEq] at H
  obtain ⟨rfl, rfl, rfl, rfl, rfl, rfl⟩ := H
  go_enter Try.func63, Try.ntmps63
  go_wp2_with (first | ((with_reducible refine gate_dst (N := 3) rfl ?_); refine zbe (N := 3) (cs := #[.int .i64 a1_0, .int .i64 a1_1, .int .i64 a1_2, .int .i64 a1_3]) (t := 29) ?_; intro gb629 hg w12 hbox hb; have BK629 := Aside0.mk (hbox); have GW629 := Aside0.mk ((by rw [hg]; exact (keep_size (w := w) (g := g) (row := none) (z63_1 HK)) : w.heap.size ≤ gb629)); have GE629 := Aside0.mk ((Nat.le_trans HW0.out (by rw [hg]; exact (keep_size (w := w) (g := g) (row := none) (z63_1 HK)) : w.heap.size ≤ gb629) : w0.heap.size ≤ gb629)); have NB0_629 := Aside0.mk ((by rw [hg]; exact Nat.ne_of_lt (IsS57.lt (show IsS57 w0 _ g false from (z63_0 HI0))) : g ≠ gb629)); have NB629_0 := Aside0.mk ((by rw [hg]; exact Nat.ne_of_gt (IsS57.lt (show IsS57 w0 _ g false from (z63_0 HI0))) : gb629 ≠ g)); replace HI0 := Aside0.mk (IsS57.below (z63_0 HI0) hb); replace HK := Aside0.mk (KeepBut.trans (z63_1 HK) (KeepBut.of_below hb g none) (.inl rfl)); replace HB := Aside0.mk (below_step (z63_2 HB) hb); clear hb hbox hg) | ((with_reducible refine gate_dst (N := 4) rfl ?_); refine zbe (N := 4) (cs := #[.int .i64 0, .int .i64 0, .int .i64 0, .int .i64 0]) (t := 29) ?_; intro gb630 hg w13 hbox hb; have BK630 := Aside0.mk (hbox); have GW630 := Aside0.mk ((by rw [hg]; exact (keep_size (w := w) (g := g) (row := none) (z63_4 HK)) : w.heap.size ≤ gb630)); have GE630 := Aside0.mk ((Nat.le_trans HW0.out (by rw [hg]; exact (keep_size (w := w) (g := g) (row := none) (z63_4 HK)) : w.heap.size ≤ gb630) : w0.heap.size ≤ gb630)); have NB629_630 := Aside0.mk (zlt BK629 hg); have NB630_629 := Aside0.mk (zgt BK629 hg); have NB0_630 := Aside0.mk ((by rw [hg]; exact Nat.ne_of_lt (IsS57.lt (show IsS57 w0 _ g false from (z63_3 HI0))) : g ≠ gb630)); have NB630_0 := Aside0.mk ((by rw [hg]; exact Nat.ne_of_gt (IsS57.lt (show IsS57 w0 _ g false from (z63_3 HI0))) : gb630 ≠ g)); replace HI0 := Aside0.mk (IsS57.below (z63_3 HI0) hb); replace BK629 := Aside0.mk (zbb BK629 hb); replace HK := Aside0.mk (KeepBut.trans (z63_4 HK) (KeepBut.of_below hb g none) (.inl rfl)); replace HB := Aside0.mk (below_step (z63_5 HB) hb); clear hb hbox hg; obtain ⟨HGz14, hgz14⟩ := HI0.out; have hcz14_0 := cellS57_0 HGz14; have hfz14_0 := blk_frozen HGz14 0; clear HGz14 hgz14; have hnb15 := NB630_629.out; have hnc15 := NB629_630.out; have hnb16 := NB630_0.out; have hnc16 := NB0_630.out; have hcz17_0 : w13.cell? ⟨gb630, 0, none⟩ = some (.int .i64 0) := zc BK630 0; have hcz17_1 : w13.cell? ⟨gb630, 1, none⟩ = some (.int .i64 0) := zc BK630 1; have hcz17_2 : w13.cell? ⟨gb630, 2, none⟩ = some (.int .i64 0) := zc BK630 2; have hcz17_3 : w13.cell? ⟨gb630, 3, none⟩ = some (.int .i64 0) := zc BK630 3; have hfz17_0 := blk_frozen BK630.out 0; have hfz17_1 := blk_frozen BK630.out 1; have hfz17_2 := blk_frozen BK630.out 2; have hfz17_3 := blk_frozen BK630.out 3))
  refine bodyPost_ret (results_ct rfl _ _ gb630 29 #[.int .i64 0, .int .i64 0, .int .i64 0, .int .i64 0] (0, 0) _ rfl (by (with_reducible repeat (first | refine blk_drewN ?_ _ | refine blk_drew ?_ | refine blk_alloc ?_ _)); refine blk_put (cs := #[.int .i64 0, .int .i64 0, .int .i64 0, .int .i64 0]) ?_ 3 _ rfl; (with_reducible repeat (first | refine blk_drewN ?_ _ | refine blk_drew ?_ | refine blk_alloc ?_ _)); refine blk_put (cs := #[.int .i64 0, .int .i64 0, .int .i64 0, .int .i64 0]) ?_ 2 _ rfl; (with_reducible repeat (first | refine blk_drewN ?_ _ | refine blk_drew ?_ | refine blk_alloc ?_ _)); refine blk_put (cs := #[.int .i64 0, .int .i64 0, .int .i64 0, .int .i64 0]) ?_ 1 _ rfl; (with_reducible repeat (first | refine blk_drewN ?_ _ | refine blk_drew ?_ | refine blk_alloc ?_ _)); refine blk_put (cs := #[.int .i64 0, .int .i64 0, .int .i64 0, .int .i64 0]) ?_ 0 _ rfl; (with_reducible repeat (first | refine blk_drewN ?_ _ | refine blk_drew ?_ | refine blk_alloc ?_ _)); exact BK630.out) Try.underlying29 rfl (by kernel_rfl)) rfl ?_
  exact ⟨by first | rfl | (simp [errW_none, errW_some] <;> rfl) | (simp [*, errW_none, errW_some] <;> rfl), (z63_3 HI0), (z63_5 HB), (z63_4 HK)⟩
/-! ### spec_ivMinus: function 92 -/
/-! ### spec_l1Abs: function 113 -/
set_option maxHeartbeats 8000000 in
set_option maxRecDepth 100000 in
theorem spec_l1Abs.calls (a0 : Int) (r : Int) (w : World) (h : spec_l1Abs.f a0 = some r) :
  Calls Try.prog 113 #[.int .i64 a0] w fun e w' => e = .returned (.int .i64 r) ∧ Drawn0 w w' := by
 have H : ((spec_l1Most.f a0 (wrap64 (-a0))).bind fun t787 => (some t787)) = some r := h
 clear h
 replace H := Option.bind_eq_some_iff.mp H
 obtain ⟨t787, A20, H⟩ := H
 replace H : (some t787) = some r := H
 have A2 := Aside0.mk A20
 clear A20
 obtain rfl := Option.some.inj H
 go_enter Try.func113, Try.ntmps113
 go_wp2_with (first | ((with_reducible refine gate_callee (f := 109) rfl ?_); refine goesL_ (some 6) rfl rfl Try.func109 (by kernel_rfl) rfl #[.int .i64 a0, .int .i64 (wrap64 (-a0))] rfl zq6 ?_; (with_reducible refine (spec_l1Most.calls a0 (wrap64 (-a0)) t787 _ A2.out).mono ?_); rintro e w' ⟨rfl, ⟨nd, rfl⟩⟩; refine ⟨_, rfl, ?_⟩))
 go_ret
 exact ⟨by first | rfl | (simp; done) | (simp [*]; done), by repeat (first | exact Drawn0.refl _ | apply Drawn0.step)⟩
/-! ### bits_Mul64: function 122 -/
set_option maxHeartbeats 8000000 in
set_option maxRecDepth 100000 in
theorem bits_Mul64.calls (a0 : Int) (a1 : Int) (r1 : Int) (r2 : Int) (w : World) (h : bits_Mul64.f a0 a1 = some (r1, r2)) :
  Calls Try.prog 122 #[.int .u64 a0, .int .u64 a1] w fun e w' => e = .returned (.tuple #[.int .u64 r1, .int .u64 r2]) ∧ Drawn0 w w' := by
 have H : (some (IntKind.u64.wrap ((IntKind.u64.wrap ((IntKind.u64.wrap ((a0 / 4294967296) * (a1 / 4294967296))) + ((IntKind.u64.wrap ((IntKind.u64.wrap ((a0 / 4294967296) * (Go.bits .and .u64 a1 4294967295))) + ((IntKind.u64.wrap ((Go.bits .and .u64 a0 4294967295) * (Go.bits .and .u64 a1 4294967295))) / 4294967296))) / 4294967296))) + ((IntKind.u64.wrap ((Go.bits .and .u64 (IntKind.u64.wrap ((IntKind.u64.wrap ((a0 / 4294967296) * (Go.bits .and .u64 a1 4294967295))) + ((IntKind.u64.wrap ((Go.bits .and .u64 a0 4294967295) * (Go.bits .and .u64 a1 4294967295))) / 4294967296))) 4294967295) + (IntKind.u64.wrap ((Go.bits .and .u64 a0 4294967295) * (a1 / 4294967296))))) / 4294967296)), IntKind.u64.wrap (a0 * a1))) = some (r1, r2) := h
 clear h
 simp only [Option.some.injEq, Prod.mk.injEq] at H
 obtain ⟨rfl, rfl⟩ := H
 go_enter Try.func122, Try.ntmps122
 go_wp2
 go_ret2
 exact ⟨by first | rfl | (simp; done) | (simp [*]; done), by repeat (first | exact Drawn0.refl _ | apply Drawn0.step)⟩
/-! ### impl_timesWide: function 119 -/
set_option maxHeartbeats 8000000 in
set_option maxRecDepth 100000 in
theorem impl_timesWide.calls (a0 : Int) (a1 : Int) (r1 : Bool) (r2 : Int) (r3 : Int) (w : World) (h : impl_timesWide.f a0 a1 = some (r1, r2, r3)) :
  Calls Try.prog 119 #[.int .i64 a0, .int .i64 a1] w fun e w' => e = .returned (.agg #[.bool r1, .int .u64 r2, .int .u64 r3]) ∧ Below w.heap.size w w' := by
 have hu64 := Try.underlying64
 have HB := Aside0.mk (Below.refl w.heap.size w)
 have H : ((impl_size.f a0).bind fun t834 => ((impl_size.f a1).bind fun t835 => ((bits_Mul64.f t834 t835).bind fun bt836 => (some (((decide (a0 < 0)) != (decide (a1 < 0))), bt836.1, bt836.2))))) = some (r1, r2, r3) := h
 clear h
 replace H := Option.bind_eq_some_iff.mp H
 obtain ⟨t834, A30, H⟩ := H
 replace H : ((impl_size.f a1).bind fun t835 => ((bits_Mul64.f t834 t835).bind fun bt836 => (some (((decide (a0 < 0)) != (decide (a1 < 0))), bt836.1, bt836.2)))) = some (r1, r2, r3) := H
 have A3 := Aside0.mk A30
 clear A30
 replace H := Option.bind_eq_some_iff.mp H
 obtain ⟨t835, A40, H⟩ := H
 replace H : ((bits_Mul64.f t834 t835).bind fun bt836 => (some (((decide (a0 < 0)) != (decide (a1 < 0))), bt836.1, bt836.2))) = some (r1, r2, r3) := H
 have A4 := Aside0.mk A40
 clear A40
 replace H := Option.bind_eq_some_iff.mp H
 obtain ⟨⟨t836, t837⟩, A50, H⟩ := H
 replace H : (some (((decide (a0 < 0)) != (decide (a1 < 0))), t836, t837)) = some (r1, r2, r3) := H
 have A5 := Aside0.mk A50
 clear A50
 simp only [Option.some.injEq, Prod.mk.injEq] at H
 obtain ⟨rfl, rfl, rfl⟩ := H
 go_enter Try.func119, Try.ntmps119
 go_wp2_with (first | ((with_reducible refine gate_dst (N := 4) rfl ?_); refine zbe (N := 4) (cs := #[.bool false, .int .u64 0, .int .u64 0]) (t := 64) ?_; intro gb833 hg w6 hbox hb; have BK833 := Aside0.mk (hbox); have GW833 := Aside0.mk (zge (zb0 HB) hg); have GE833 := GW833; replace HB := Aside0.mk (below_step (zb0 HB) hb); clear hb hbox hg) | ((with_reducible refine gate_callee (f := 106) rfl ?_); refine goesL_ (some 9) rfl rfl Try.func106 (by kernel_rfl) rfl #[.int .i64 a0] rfl zq6 ?_; (with_reducible refine (impl_size.calls a0 t834 _ A3.out).mono ?_); rintro e w' ⟨rfl, ⟨nd, rfl⟩⟩; refine ⟨_, rfl, ?_⟩; (try (rw [drewN_self w6]; generalize hq_ : World.drewN w6 _ = w6; have n0_ : Aside0 (w6.heap[gb833]? = some (.cells #[.bool false, .int .u64 0, .int .u64 0] 64 (0, 0))) := ⟨by rw [← hq_]; exact (zq1 BK833)⟩; have n1_ : Aside0 (Below w.heap.size w w6) := ⟨by rw [← hq_]; exact (zb1 HB)⟩; clear BK833 HB hq_; have BK833 := n0_; have HB := n1_; clear n0_ n1_))) | ((with_reducible refine gate_callee (f := 106) rfl ?_); refine goesL_ (some 11) rfl rfl Try.func106 (by kernel_rfl) rfl #[.int .i64 a1] rfl zq6 ?_; (with_reducible refine (impl_size.calls a1 t835 _ A4.out).mono ?_); rintro e w' ⟨rfl, ⟨nd, rfl⟩⟩; refine ⟨_, rfl, ?_⟩; (try (rw [drewN_self w6]; generalize hq_ : World.drewN w6 _ = w6; have n0_ : Aside0 (w6.heap[gb833]? = some (.cells #[.bool false, .int .u64 0, .int .u64 0] 64 (0, 0))) := ⟨by rw [← hq_]; exact (zq1 BK833)⟩; have n1_ : Aside0 (Below w.heap.size w w6) := ⟨by rw [← hq_]; exact (zb1 HB)⟩; clear BK833 HB hq_; have BK833 := n0_; have HB := n1_; clear n0_ n1_))) | ((with_reducible refine gate_callee (f := 122) rfl ?_); refine goesL_ (some 12) rfl rfl Try.func122 (by kernel_rfl) rfl #[.int .u64 t834, .int .u64 t835] rfl zq6 ?_; (with_reducible refine (bits_Mul64.calls t834 t835 t836 t837 _ A5.out).mono ?_); rintro e w' ⟨rfl, ⟨nd, rfl⟩⟩; refine ⟨_, rfl, ?_⟩; (try (rw [drewN_self w6]; generalize hq_ : World.drewN w6 _ = w6; have n0_ : Aside0 (w6.heap[gb833]? = some (.cells #[.bool false, .int .u64 0, .int .u64 0] 64 (0, 0))) := ⟨by rw [← hq_]; exact (zq1 BK833)⟩; have n1_ : Aside0 (Below w.heap.size w w6) := ⟨by rw [← hq_]; exact (zb1 HB)⟩; clear BK833 HB hq_; have BK833 := n0_; have HB := n1_; clear n0_ n1_)); have hcz7_0 : w6.cell? ⟨gb833, 0, none⟩ = some (.bool false) := zc BK833 0; have hcz7_1 : w6.cell? ⟨gb833, 1, none⟩ = some (.int .u64 0) := zc BK833 1; have hcz7_2 : w6.cell? ⟨gb833, 2, none⟩ = some (.int .u64 0) := zc BK833 2; have hfz7_0 := blk_frozen BK833.out 0; have hfz7_1 := blk_frozen BK833.out 1; have hfz7_2 := blk_frozen BK833.out 2))
 refine bodyPost_ret (results_cell_row rfl _ _ gb833 64 #[.bool ((decide (a0 < 0)) != (decide (a1 < 0))), .int .u64 t836, .int .u64 t837] (0, 0) _ rfl (by (with_reducible repeat (first | refine blk_drewN ?_ _ | refine blk_drew ?_ | refine blk_alloc ?_ _)); refine blk_put (cs := #[.bool ((decide (a0 < 0)) != (decide (a1 < 0))), .int .u64 t836, .int .u64 0]) ?_ 2 _ rfl; (with_reducible repeat (first | refine blk_drewN ?_ _ | refine blk_drew ?_ | refine blk_alloc ?_ _)); refine blk_put (cs := #[.bool ((decide (a0 < 0)) != (decide (a1 < 0))), .int .u64 0, .int .u64 0]) ?_ 1 _ rfl; (with_reducible repeat (first | refine blk_drewN ?_ _ | refine blk_drew ?_ | refine blk_alloc ?_ _)); refine blk_put (cs := #[.bool false, .int .u64 0, .int .u64 0]) ?_ 0 _ rfl; (with_reducible repeat (first | refine blk_drewN ?_ _ | refine blk_drew ?_ | refine blk_alloc ?_ _)); exact BK833.out) Try.underlying64 rfl (by kernel_rfl)) rfl ?_
 exact ⟨by first | rfl | (simp [errW_none, errW_some] <;> rfl) | (simp [*, errW_none, errW_some] <;> rfl), (zb1 HB)⟩
/-! ### spec_dyInt: function 96 -/
set_option maxHeartbeats 8000000 in
set_option maxRecDepth 100000 in
theorem spec_dyInt.calls (a0 : Int) (r1 : Int) (r2 : Int) (w : World) (h : spec_dyInt.f a0 = some (r1, r2)) :
  Calls Try.prog 96 #[.int .i64 a0] w fun e w' => e = .returned (.agg #[.int .i64 r1, .int .i64 r2]) ∧ Below w.heap.size w w' := by
 have hu27 := Try.underlying27
 have HB := Aside0.mk (Below.refl w.heap.size w)
 have H : (some (a0, 0)) = some (r1, r2) := h
 clear h
 simp only [Option.some.injEq, Prod.mk.injEq] at H
 obtain ⟨rfl, rfl⟩ := H
 go_enter Try.func96, Try.ntmps96
 go_wp2_with (first | ((with_reducible refine gate_dst (N := 2) rfl ?_); refine zbe (N := 2) (cs := #[.int .i64 0, .int .i64 0]) (t := 27) ?_; intro gb939 hg w2 hbox hb; have BK939 := Aside0.mk (hbox); have GW939 := Aside0.mk (zge (zb0 HB) hg); have GE939 := GW939; replace HB := Aside0.mk (below_step (zb0 HB) hb); clear hb hbox hg; have hcz3_0 : w2.cell? ⟨gb939, 0, none⟩ = some (.int .i64 0) := zc BK939 0; have hcz3_1 : w2.cell? ⟨gb939, 1, none⟩ = some (.int .i64 0) := zc BK939 1; have hfz3_0 := blk_frozen BK939.out 0; have hfz3_1 := blk_frozen BK939.out 1))
 refine bodyPost_ret (results_cell_row rfl _ _ gb939 27 #[.int .i64 a0, .int .i64 0] (0, 0) _ rfl (by (with_reducible repeat (first | refine blk_drewN ?_ _ | refine blk_drew ?_ | refine blk_alloc ?_ _)); refine blk_put (cs := #[.int .i64 a0, .int .i64 0]) ?_ 1 _ rfl; (with_reducible repeat (first | refine blk_drewN ?_ _ | refine blk_drew ?_ | refine blk_alloc ?_ _)); refine blk_put (cs := #[.int .i64 0, .int .i64 0]) ?_ 0 _ rfl; (with_reducible repeat (first | refine blk_drewN ?_ _ | refine blk_drew ?_ | refine blk_alloc ?_ _)); exact BK939.out) Try.underlying27 rfl (by kernel_rfl)) rfl ?_
 exact ⟨by first | rfl | (simp [errW_none, errW_some] <;> rfl) | (simp [*, errW_none, errW_some] <;> rfl), (zb1 HB)⟩
/-! ### impl_single: function 97 -/
set_option maxHeartbeats 8000000 in
set_option maxRecDepth 100000 in
theorem impl_single.calls (a0_0 : Int) (a0_1 : Int) (r1 : Int) (r2 : Int) (r3 : Int) (r4 : Int) (w : World) (h : impl_single.f a0_0 a0_1 = some (r1, r2, r3, r4)) :
  Calls Try.prog 97 #[.agg #[.int .i64 a0_0, .int .i64 a0_1]] w fun e w' => e = .returned (.agg #[.int .i64 r1, .int .i64 r2, .int .i64 r3, .int .i64 r4]) ∧ Below w.heap.size w w' := by
 have hu27 := Try.underlying27
 have hu29 := Try.underlying29
 have HB := Aside0.mk (Below.refl w.heap.size w)
 have H : (some (a0_0, a0_1, a0_0, a0_1)) = some (r1, r2, r3, r4) := h
 clear h
 simp only [Option.some.injEq, Prod.mk.injEq] at H
 obtain ⟨rfl, rfl, rfl, rfl⟩ := H
 go_enter Try.func97, Try.ntmps97
 go_wp2_with (first | ((with_reducible refine gate_dst (N := 1) rfl ?_); refine zbe (N := 1) (cs := #[.int .i64 a0_0, .int .i64 a0_1]) (t := 27) ?_; intro gb993 hg w2 hbox hb; have BK993 := Aside0.mk (hbox); have GW993 := Aside0.mk (zge (zb0 HB) hg); have GE993 := GW993; replace HB := Aside0.mk (below_step (zb0 HB) hb); clear hb hbox hg) | ((with_reducible refine gate_dst (N := 2) rfl ?_); refine zbe (N := 2) (cs := #[.int .i64 0, .int .i64 0, .int .i64 0, .int .i64 0]) (t := 29) ?_; intro gb994 hg w3 hbox hb; have BK994 := Aside0.mk (hbox); have GW994 := Aside0.mk (zge (zb1 HB) hg); have GE994 := GW994; have NB993_994 := Aside0.mk (zlt BK993 hg); have NB994_993 := Aside0.mk (zgt BK993 hg); replace BK993 := Aside0.mk (zbb BK993 hb); replace HB := Aside0.mk (below_step (zb1 HB) hb); clear hb hbox hg; have hnb4 := NB993_994.out; have hnc4 := NB994_993.out; have hcz5_0 : w3.cell? ⟨gb993, 0, none⟩ = some (.int .i64 a0_0) := zc BK993 0; have hcz5_1 : w3.cell? ⟨gb993, 1, none⟩ = some (.int .i64 a0_1) := zc BK993 1; have hfz5_0 := blk_frozen BK993.out 0; have hfz5_1 := blk_frozen BK993.out 1; have hcz6_0 : w3.cell? ⟨gb994, 0, none⟩ = some (.int .i64 0) := zc BK994 0; have hcz6_1 : w3.cell? ⟨gb994, 1, none⟩ = some (.int .i64 0) := zc BK994 1; have hcz6_2 : w3.cell? ⟨gb994, 2, none⟩ = some (.int .i64 0) := zc BK994 2; have hcz6_3 : w3.cell? ⟨gb994, 3, none⟩ = some (.int .i64 0) := zc BK994 3; have hfz6_0 := blk_frozen BK994.out 0; have hfz6_1 := blk_frozen BK994.out 1; have hfz6_2 := blk_frozen BK994.out 2; have hfz6_3 := blk_frozen BK994.out 3))
 refine bodyPost_ret (results_cell_row rfl _ _ gb994 29 #[.int .i64 a0_0, .int .i64 a0_1, .int .i64 a0_0, .int .i64 a0_1] (0, 0) _ rfl (by (with_reducible repeat (first | refine blk_drewN ?_ _ | refine blk_drew ?_ | refine blk_alloc ?_ _)); refine blk_put (cs := #[.int .i64 a0_0, .int .i64 a0_1, .int .i64 a0_0, .int .i64 0]) ?_ 3 _ rfl; (with_reducible repeat (first | refine blk_drewN ?_ _ | refine blk_drew ?_ | refine blk_alloc ?_ _)); refine blk_put (cs := #[.int .i64 a0_0, .int .i64 a0_1, .int .i64 0, .int .i64 0]) ?_ 2 _ rfl; (with_reducible repeat (first | refine blk_drewN ?_ _ | refine blk_drew ?_ | refine blk_alloc ?_ _)); refine blk_put (cs := #[.int .i64 a0_0, .int .i64 0, .int .i64 0, .int .i64 0]) ?_ 1 _ rfl; (with_reducible repeat (first | refine blk_drewN ?_ _ | refine blk_drew ?_ | refine blk_alloc ?_ _)); refine blk_put (cs := #[.int .i64 0, .int .i64 0, .int .i64 0, .int .i64 0]) ?_ 0 _ rfl; (with_reducible repeat (first | refine blk_drewN ?_ _ | refine blk_drew ?_ | refine blk_alloc ?_ _)); exact BK994.out) Try.underlying29 rfl (by kernel_rfl)) rfl ?_
 exact ⟨by first | rfl | (simp [errW_none, errW_some] <;> rfl) | (simp [*, errW_none, errW_some] <;> rfl), (zb1 HB)⟩
/-! ### impl_integer: function 98 -/
set_option maxHeartbeats 8000000 in
set_option maxRecDepth 100000 in
theorem impl_integer.calls (a0 : Int) (r1 : Int) (r2 : Int) (w : World) (h : impl_integer.f a0 = some (r1, r2)) :
  Calls Try.prog 98 #[.int .i64 a0] w fun e w' => e = .returned (.agg #[.int .i64 r1, .int .i64 r2]) ∧ Below w.heap.size w w' := by
 have hu27 := Try.underlying27
 have HB := Aside0.mk (Below.refl w.heap.size w)
 have H : (some (a0, 0)) = some (r1, r2) := h
 clear h
 simp only [Option.some.injEq, Prod.mk.injEq] at H
 obtain ⟨rfl, rfl⟩ := H
 go_enter Try.func98, Try.ntmps98
 go_wp2_with (first | ((with_reducible refine gate_dst (N := 2) rfl ?_); refine zbe (N := 2) (cs := #[.int .i64 0, .int .i64 0]) (t := 27) ?_; intro gb995 hg w2 hbox hb; have BK995 := Aside0.mk (hbox); have GW995 := Aside0.mk (zge (zb0 HB) hg); have GE995 := GW995; replace HB := Aside0.mk (below_step (zb0 HB) hb); clear hb hbox hg; have hcz3_0 : w2.cell? ⟨gb995, 0, none⟩ = some (.int .i64 0) := zc BK995 0; have hcz3_1 : w2.cell? ⟨gb995, 1, none⟩ = some (.int .i64 0) := zc BK995 1; have hfz3_0 := blk_frozen BK995.out 0; have hfz3_1 := blk_frozen BK995.out 1))
 refine bodyPost_ret (results_cell_row rfl _ _ gb995 27 #[.int .i64 a0, .int .i64 0] (0, 0) _ rfl (by (with_reducible repeat (first | refine blk_drewN ?_ _ | refine blk_drew ?_ | refine blk_alloc ?_ _)); refine blk_put (cs := #[.int .i64 a0, .int .i64 0]) ?_ 1 _ rfl; (with_reducible repeat (first | refine blk_drewN ?_ _ | refine blk_drew ?_ | refine blk_alloc ?_ _)); refine blk_put (cs := #[.int .i64 0, .int .i64 0]) ?_ 0 _ rfl; (with_reducible repeat (first | refine blk_drewN ?_ _ | refine blk_drew ?_ | refine blk_alloc ?_ _)); exact BK995.out) Try.underlying27 rfl (by kernel_rfl)) rfl ?_
 exact ⟨by first | rfl | (simp [errW_none, errW_some] <;> rfl) | (simp [*, errW_none, errW_some] <;> rfl), (zb1 HB)⟩
end Go.Proofs.Ytinpcalgdiigiaa.PD
