-- Written by a program of this session (wip/mk/drv.py) out of the seat's translation; Lean checks it.
import Derived.Test.YtinpcalgdiigiaaQWidthOfPDx0
import Derived.Test.YtinpcalgdiigiaaQWidthOfPDx1
import Derived.Test.YtinpcalgdiigiaaQWidthOfPDx2
import Derived.Test.YtinpcalgdiigiaaQWidthOfPDx3
import Derived.Test.YtinpcalgdiigiaaQWidthOfPDx49
import Derived.Test.YtinpcalgdiigiaaQWidthOfPDx52
namespace Go.Proofs.Ytinpcalgdiigiaa.PD
open Go.RowKit Go.Proofs.YtinpcalgdiigiaaW.PrintWords Go.Proofs.YtinpcalgdiigiaaW.PrintLast Go.Proofs.YtinpcalgdiigiaaW.PrintMore
attribute [local go_sem] max2_int min2_int max_two min_two max_three min_three max_four min_four   -- for this text's walks alone
set_option linter.unusedVariables false
set_option linter.unusedSimpArgs false
/-! ### laws_FnExactWidthOf: function 9 -/
theorem z9_0 {w W0 W1 : World} {B : Nat} (h : Aside0 (Below B w W0)) (f : Below B w W0 → Below B w W1 := by intro h_; repeat (first | (with_reducible first | exact h_ | apply below_alloc | apply pw_below_drewN | apply below_drew1) | exact h_)) : Below B w W1 := f h.out
theorem z9_1 {w W0 W1 : World} {B : Nat} (h : Aside0 (Below B w W0)) (f : Below B w W0 → Below B w W1 := by intro h_; repeat (first | (with_reducible first | exact h_ | apply below_alloc | apply pw_below_drewN | apply below_drew1 | refine below_set ?_ (Aside0.out (by assumption))) | exact h_)) : Below B w W1 := f h.out
set_option maxHeartbeats 8000000 in
set_option maxRecDepth 100000 in
theorem laws_FnExactWidthOf.calls (k : Nat) (a0_0 : Int) (a0_1 : Int) (a0_2 : Int) (a0_3 : Int) (r : Bool) (w : World) (h : laws_FnExactWidthOf.f k a0_0 a0_1 a0_2 a0_3 = some r) :
  Calls Try.prog 9 #[.agg #[.int .i64 a0_0, .int .i64 a0_1, .int .i64 a0_2, .int .i64 a0_3]] w fun e w' => e = .returned (.bool r) ∧ Below w.heap.size w w' := by
 have hu25 := Try.underlying25
 have hu27 := Try.underlying27
 have HB := Aside0.mk (Below.refl w.heap.size w)
 have H : ((laws_toInterval.f a0_0 a0_1 a0_2 a0_3).bind fun bt584 => ((spec_WidthOf.f k bt584.1 bt584.2.1 bt584.2.2.1 bt584.2.2.2).bind fun bt588 => ((laws_toInterval.f a0_0 a0_1 a0_2 a0_3).bind fun bt592 => ((impl_WidthOf.f k bt592.1 bt592.2.1 bt592.2.2.1 bt592.2.2.2).bind fun bt596 => ((laws_eqDyadic.f bt596.1 bt596.2.1 bt588.1 bt588.2.1).bind fun t600 => (if t600 = true then (if (bt596.2.2 != bt588.2.2) = true then (none) else (some true)) else (none))))))) = some r := h
 clear h
 replace H := Option.bind_eq_some_iff.mp H
 obtain ⟨⟨t584, t585, t586, t587⟩, A20, H⟩ := H
 replace H : ((spec_WidthOf.f k t584 t585 t586 t587).bind fun bt588 => ((laws_toInterval.f a0_0 a0_1 a0_2 a0_3).bind fun bt592 => ((impl_WidthOf.f k bt592.1 bt592.2.1 bt592.2.2.1 bt592.2.2.2).bind fun bt596 => ((laws_eqDyadic.f bt596.1 bt596.2.1 bt588.1 bt588.2.1).bind fun t600 => (if t600 = true then (if (bt596.2.2 != bt588.2.2) = true then (none) else (some true)) else (none)))))) = some r := H
 have A2 := Aside0.mk A20
 clear A20
 replace H := Option.bind_eq_some_iff.mp H
 obtain ⟨⟨t588, t589, t590⟩, A30, H⟩ := H
 replace H : ((laws_toInterval.f a0_0 a0_1 a0_2 a0_3).bind fun bt592 => ((impl_WidthOf.f k bt592.1 bt592.2.1 bt592.2.2.1 bt592.2.2.2).bind fun bt596 => ((laws_eqDyadic.f bt596.1 bt596.2.1 t588 t589).bind fun t600 => (if t600 = true then (if (bt596.2.2 != t590) = true then (none) else (some true)) else (none))))) = some r := H
 have A3 := Aside0.mk A30
 clear A30
 replace H := Option.bind_eq_some_iff.mp H
 obtain ⟨⟨t592, t593, t594, t595⟩, A40, H⟩ := H
 replace H : ((impl_WidthOf.f k t592 t593 t594 t595).bind fun bt596 => ((laws_eqDyadic.f bt596.1 bt596.2.1 t588 t589).bind fun t600 => (if t600 = true then (if (bt596.2.2 != t590) = true then (none) else (some true)) else (none)))) = some r := H
 have A4 := Aside0.mk A40
 clear A40
 replace H := Option.bind_eq_some_iff.mp H
 obtain ⟨⟨t596, t597, t598⟩, A50, H⟩ := H
 replace H : ((laws_eqDyadic.f t596 t597 t588 t589).bind fun t600 => (if t600 = true then (if (t598 != t590) = true then (none) else (some true)) else (none))) = some r := H
 have A5 := Aside0.mk A50
 clear A50
 replace H := Option.bind_eq_some_iff.mp H
 obtain ⟨t600, A60, H⟩ := H
 replace H : (if t600 = true then (if (t598 != t590) = true then (none) else (some true)) else (none)) = some r := H
 have A6 := Aside0.mk A60
 clear A60
 by_cases c7 : t600 = true
 ·
  subst c7
  have H1 : (if (t598 != t590) = true then (none) else (some true)) = some r := by rw [if_pos rfl] at H; exact H
  clear H
  have H := H1
  clear H1
  by_cases c8 : (t598 != t590) = true
  ·
   rw [if_pos c8] at H
   exact absurd H (by simp)
  ·
   rw [if_neg c8] at H
   have c8b0 : (t598 != t590) = false := by simpa using c8
   (try (have c8b1 : decide (t598 = t590) = true := by simpa using c8))
   (try (have c8b2 : (t598 == t590) = true := by simpa using c8))
   clear c8
   obtain rfl := Option.some.inj H
   go_enter Try.func9, Try.ntmps9
   go_wp2_with (first | ((with_reducible refine gate_dst (N := 1) rfl ?_); refine box_event ?hg (N := 1) ?hd (cs := #[.int .i64 a0_0, .int .i64 a0_1, .int .i64 a0_2, .int .i64 a0_3]) (t := 25) ?hr ?_; (case hd => rfl); (case hg => rfl); (case hr => first | (go_simp; done) | (go_simp; rfl)); intro gb583 hg w9 hbox hb; have n0_ := Aside0.mk (below_step (z9_0 HB) hb); have n1_ := Aside0.mk (hbox); have n2_ := Aside0.mk ((by rw [hg]; exact (below_size (z9_0 HB)) : w.heap.size ≤ gb583)); have n3_ := Aside0.mk ((by rw [hg]; exact (below_size (z9_0 HB)) : w.heap.size ≤ gb583)); clear HB; have HB := n0_; have BK583 := n1_; have GW583 := n2_; have GE583 := n3_; clear n0_ n1_ n2_ n3_; clear hb hbox hg; have hcz10_0 : w9.cell? ⟨gb583, 0, none⟩ = some (.int .i64 a0_0) := zc BK583 0; have hcz10_1 : w9.cell? ⟨gb583, 1, none⟩ = some (.int .i64 a0_1) := zc BK583 1; have hcz10_2 : w9.cell? ⟨gb583, 2, none⟩ = some (.int .i64 a0_2) := zc BK583 2; have hcz10_3 : w9.cell? ⟨gb583, 3, none⟩ = some (.int .i64 a0_3) := zc BK583 3; have hfz10_0 := blk_frozen BK583.out 0; have hfz10_1 := blk_frozen BK583.out 1; have hfz10_2 := blk_frozen BK583.out 2; have hfz10_3 := blk_frozen BK583.out 3) | ((with_reducible refine gate_callee (f := 16) rfl ?_); refine goesL_ (some 9) rfl rfl Try.func16 (by kernel_rfl) rfl #[.agg #[.int .i64 a0_0, .int .i64 a0_1, .int .i64 a0_2, .int .i64 a0_3]] rfl (by (try simp only [List.map_toArray, List.map_cons, List.map_nil]); first | done | rfl | (simp only [List.length_drop, List.length_take]; rfl)) ?_; (with_reducible refine (laws_toInterval.calls a0_0 a0_1 a0_2 a0_3 t584 t585 t586 t587 _ A2.out).mono ?_); rintro e w11 ⟨rfl, hb⟩; refine ⟨_, rfl, ?_⟩; have n0_ := Aside0.mk (zbb BK583 hb); have n1_ := Aside0.mk (below_step (z9_1 HB) hb); clear BK583; clear HB; have BK583 := n0_; have HB := n1_; clear n0_ n1_; (try clear hb); (try clear hb2); (try clear hk); (try clear hi)) | ((with_reducible refine gate_callee (f := 29) rfl ?_); refine goesL_ (some 10) rfl rfl Try.func29 (by kernel_rfl) rfl #[.agg #[.int .i64 t584, .int .i64 t585, .int .i64 t586, .int .i64 t587]] rfl (by (try simp only [List.map_toArray, List.map_cons, List.map_nil]); first | done | rfl | (simp only [List.length_drop, List.length_take]; rfl)) ?_; (with_reducible refine (spec_WidthOf.calls k t584 t585 t586 t587 t588 t589 t590 _ A3.out).mono ?_); rintro e w12 ⟨rfl, hb⟩; refine ⟨_, rfl, ?_⟩; have n0_ := Aside0.mk (zbb BK583 hb); have n1_ := Aside0.mk (below_step (z9_1 HB) hb); clear BK583; clear HB; have BK583 := n0_; have HB := n1_; clear n0_ n1_; (try clear hb); (try clear hb2); (try clear hk); (try clear hi)) | ((with_reducible refine gate_dst (N := 3) rfl ?_); refine box_event ?hg (N := 3) ?hd (cs := #[.int .i64 0, .int .i64 0]) (t := 27) ?hr ?_; (case hd => rfl); (case hg => rfl); (case hr => first | (go_simp; done) | (go_simp; rfl)); intro gb591 hg w13 hbox hb; have n0_ := Aside0.mk (zbb BK583 hb); have n1_ := Aside0.mk (below_step (z9_1 HB) hb); have n2_ := Aside0.mk (hbox); have n3_ := Aside0.mk ((by rw [hg]; exact (below_size (z9_1 HB)) : w.heap.size ≤ gb591)); have n4_ := Aside0.mk ((by rw [hg]; exact (below_size (z9_1 HB)) : w.heap.size ≤ gb591)); have n5_ := Aside0.mk (zlt BK583 hg); have n6_ := Aside0.mk (zgt BK583 hg); clear BK583; clear HB; have BK583 := n0_; have HB := n1_; have BK591 := n2_; have GW591 := n3_; have GE591 := n4_; have NB583_591 := n5_; have NB591_583 := n6_; clear n0_ n1_ n2_ n3_ n4_ n5_ n6_; clear hb hbox hg; have hnb14 := NB591_583.out; have hnc14 := NB583_591.out; have hcz15_0 : w13.cell? ⟨gb591, 0, none⟩ = some (.int .i64 0) := zc BK591 0; have hcz15_1 : w13.cell? ⟨gb591, 1, none⟩ = some (.int .i64 0) := zc BK591 1; have hfz15_0 := blk_frozen BK591.out 0; have hfz15_1 := blk_frozen BK591.out 1; have hcz16_0 : w13.cell? ⟨gb583, 0, none⟩ = some (.int .i64 a0_0) := zc BK583 0; have hcz16_1 : w13.cell? ⟨gb583, 1, none⟩ = some (.int .i64 a0_1) := zc BK583 1; have hcz16_2 : w13.cell? ⟨gb583, 2, none⟩ = some (.int .i64 a0_2) := zc BK583 2; have hcz16_3 : w13.cell? ⟨gb583, 3, none⟩ = some (.int .i64 a0_3) := zc BK583 3; have hfz16_0 := blk_frozen BK583.out 0; have hfz16_1 := blk_frozen BK583.out 1; have hfz16_2 := blk_frozen BK583.out 2; have hfz16_3 := blk_frozen BK583.out 3) | ((with_reducible refine gate_callee (f := 16) rfl ?_); refine goesL_ (some 15) rfl rfl Try.func16 (by kernel_rfl) rfl #[.agg #[.int .i64 a0_0, .int .i64 a0_1, .int .i64 a0_2, .int .i64 a0_3]] rfl (by (try simp only [List.map_toArray, List.map_cons, List.map_nil]); first | done | rfl | (simp only [List.length_drop, List.length_take]; rfl)) ?_; (with_reducible refine (laws_toInterval.calls a0_0 a0_1 a0_2 a0_3 t592 t593 t594 t595 _ A4.out).mono ?_); rintro e w17 ⟨rfl, hb⟩; refine ⟨_, rfl, ?_⟩; have n0_ := Aside0.mk (blk_below (g := gb583) (o := .cells #[.int .i64 a0_0, .int .i64 a0_1, .int .i64 a0_2, .int .i64 a0_3] 25 (0, 0)) (zq5 BK583) hb); have n1_ := Aside0.mk (blk_below (g := gb591) (o := .cells #[.int .i64 t588, .int .i64 t589] 27 (0, 0)) (by (with_reducible repeat (first | refine blk_drewN ?_ _ | refine blk_drew ?_ | refine blk_alloc ?_ _)); refine blk_put (cs := #[.int .i64 t588, .int .i64 0]) ?_ 1 _ rfl; (with_reducible repeat (first | refine blk_drewN ?_ _ | refine blk_drew ?_ | refine blk_alloc ?_ _)); refine blk_put (cs := #[.int .i64 0, .int .i64 0]) ?_ 0 _ rfl; (with_reducible repeat (first | refine blk_drewN ?_ _ | refine blk_drew ?_ | refine blk_alloc ?_ _)); exact BK591.out) hb); have n2_ := Aside0.mk (below_step (z9_1 HB) hb); clear BK583; clear BK591; clear HB; have BK583 := n0_; have BK591 := n1_; have HB := n2_; clear n0_ n1_ n2_; (try clear hb); (try clear hb2); (try clear hk); (try clear hi)) | ((with_reducible refine gate_callee (f := 30) rfl ?_); refine goesL_ (some 16) rfl rfl Try.func30 (by kernel_rfl) rfl #[.agg #[.int .i64 t592, .int .i64 t593, .int .i64 t594, .int .i64 t595]] rfl (by (try simp only [List.map_toArray, List.map_cons, List.map_nil]); first | done | rfl | (simp only [List.length_drop, List.length_take]; rfl)) ?_; (with_reducible refine (impl_WidthOf.calls k t592 t593 t594 t595 t596 t597 t598 _ A5.out).mono ?_); rintro e w18 ⟨rfl, hb⟩; refine ⟨_, rfl, ?_⟩; have n0_ := Aside0.mk (zbb BK583 hb); have n1_ := Aside0.mk (zbb BK591 hb); have n2_ := Aside0.mk (below_step (z9_1 HB) hb); clear BK583; clear BK591; clear HB; have BK583 := n0_; have BK591 := n1_; have HB := n2_; clear n0_ n1_ n2_; (try clear hb); (try clear hb2); (try clear hk); (try clear hi)) | ((with_reducible refine gate_dst (N := 5) rfl ?_); refine box_event ?hg (N := 5) ?hd (cs := #[.int .i64 0, .int .i64 0]) (t := 27) ?hr ?_; (case hd => rfl); (case hg => rfl); (case hr => first | (go_simp; done) | (go_simp; rfl)); intro gb599 hg w19 hbox hb; have n0_ := Aside0.mk (zbb BK583 hb); have n1_ := Aside0.mk (zbb BK591 hb); have n2_ := Aside0.mk (below_step (z9_1 HB) hb); have n3_ := Aside0.mk (hbox); have n4_ := Aside0.mk ((by rw [hg]; exact (below_size (z9_1 HB)) : w.heap.size ≤ gb599)); have n5_ := Aside0.mk ((by rw [hg]; exact (below_size (z9_1 HB)) : w.heap.size ≤ gb599)); have n6_ := Aside0.mk (zlt BK583 hg); have n7_ := Aside0.mk (zgt BK583 hg); have n8_ := Aside0.mk (zlt BK591 hg); have n9_ := Aside0.mk (zgt BK591 hg); clear BK583; clear BK591; clear HB; have BK583 := n0_; have BK591 := n1_; have HB := n2_; have BK599 := n3_; have GW599 := n4_; have GE599 := n5_; have NB583_599 := n6_; have NB599_583 := n7_; have NB591_599 := n8_; have NB599_591 := n9_; clear n0_ n1_ n2_ n3_ n4_ n5_ n6_ n7_ n8_ n9_; clear hb hbox hg; have hnb20 := NB599_583.out; have hnc20 := NB583_599.out; have hnb21 := NB599_591.out; have hnc21 := NB591_599.out; have hcz22_0 : w19.cell? ⟨gb599, 0, none⟩ = some (.int .i64 0) := zc BK599 0; have hcz22_1 : w19.cell? ⟨gb599, 1, none⟩ = some (.int .i64 0) := zc BK599 1; have hfz22_0 := blk_frozen BK599.out 0; have hfz22_1 := blk_frozen BK599.out 1; have hcz23_0 : w19.cell? ⟨gb591, 0, none⟩ = some (.int .i64 t588) := zc BK591 0; have hcz23_1 : w19.cell? ⟨gb591, 1, none⟩ = some (.int .i64 t589) := zc BK591 1; have hfz23_0 := blk_frozen BK591.out 0; have hfz23_1 := blk_frozen BK591.out 1) | ((with_reducible refine gate_callee (f := 31) rfl ?_); refine goesL_ (some 21) rfl rfl Try.func31 (by kernel_rfl) rfl #[.agg #[.int .i64 t596, .int .i64 t597], .agg #[.int .i64 t588, .int .i64 t589]] rfl (by (try simp only [List.map_toArray, List.map_cons, List.map_nil]); first | done | rfl | (simp only [List.length_drop, List.length_take]; rfl)) ?_; (with_reducible refine (laws_eqDyadic.calls t596 t597 t588 t589 true _ A6.out).mono ?_); rintro e w24 ⟨rfl, hb⟩; refine ⟨_, rfl, ?_⟩; have n0_ := Aside0.mk (blk_below (g := gb583) (o := .cells #[.int .i64 a0_0, .int .i64 a0_1, .int .i64 a0_2, .int .i64 a0_3] 25 (0, 0)) (zq5 BK583) hb); have n1_ := Aside0.mk (blk_below (g := gb591) (o := .cells #[.int .i64 t588, .int .i64 t589] 27 (0, 0)) (zq5 BK591) hb); have n2_ := Aside0.mk (blk_below (g := gb599) (o := .cells #[.int .i64 t596, .int .i64 t597] 27 (0, 0)) (by (with_reducible repeat (first | refine blk_drewN ?_ _ | refine blk_drew ?_ | refine blk_alloc ?_ _)); refine blk_put (cs := #[.int .i64 t596, .int .i64 0]) ?_ 1 _ rfl; (with_reducible repeat (first | refine blk_drewN ?_ _ | refine blk_drew ?_ | refine blk_alloc ?_ _)); refine blk_put (cs := #[.int .i64 0, .int .i64 0]) ?_ 0 _ rfl; (with_reducible repeat (first | refine blk_drewN ?_ _ | refine blk_drew ?_ | refine blk_alloc ?_ _)); exact BK599.out) hb); have n3_ := Aside0.mk (below_step (z9_1 HB) hb); clear BK583; clear BK591; clear BK599; clear HB; have BK583 := n0_; have BK591 := n1_; have BK599 := n2_; have HB := n3_; clear n0_ n1_ n2_ n3_; (try clear hb); (try clear hb2); (try clear hk); (try clear hi)))
   go_ret
   exact ⟨by first | rfl | (simp [errW_none, errW_some] <;> rfl) | (simp [*, errW_none, errW_some] <;> rfl), (z9_1 HB)⟩
 ·
  replace c7 := Bool.eq_false_iff.mpr c7
  subst c7
  have H1 : (none) = some r := by rw [if_neg (show ¬ (false = true) by decide)] at H; exact H
  clear H
  have H := H1
  clear H1
  exact absurd H (by simp)
end Go.Proofs.Ytinpcalgdiigiaa.PD
