-- Written by a program of this session (wip/mk/drv.py) out of the seat's translation; Lean checks it.
import Derived.Test.YtinpcalgdiigiaaQSubtractIntervalsPDx0
import Derived.Test.YtinpcalgdiigiaaQSubtractIntervalsPDx1
import Derived.Test.YtinpcalgdiigiaaQSubtractIntervalsPDx13
import Derived.Test.YtinpcalgdiigiaaQSubtractIntervalsPDx57
import Derived.Test.YtinpcalgdiigiaaQSubtractIntervalsPDx65
namespace Go.Proofs.Ytinpcalgdiigiaa.PD
open Go.RowKit Go.Proofs.YtinpcalgdiigiaaW.PrintWords Go.Proofs.YtinpcalgdiigiaaW.PrintLast Go.Proofs.YtinpcalgdiigiaaW.PrintMore
attribute [local go_sem] max2_int min2_int max_two min_two max_three min_three max_four min_four   -- for this text's walks alone
set_option linter.unusedVariables false
set_option linter.unusedSimpArgs false
/-! ### impl_SubtractIntervals: function 35 -/
theorem z35_0 {w W0 W1 : World} {B : Nat} (h : Aside0 (Below B w W0)) (f : Below B w W0 → Below B w W1 := by intro h_; repeat (first | (with_reducible first | exact h_ | apply below_alloc | apply pw_below_drewN | apply below_drew1) | exact h_)) : Below B w W1 := f h.out
theorem z35_1 {w W0 W1 : World} {B : Nat} (h : Aside0 (Below B w W0)) (f : Below B w W0 → Below B w W1 := by intro h_; repeat (first | (with_reducible first | exact h_ | apply below_alloc | apply pw_below_drewN | apply below_drew1 | refine below_set ?_ (Aside0.out (by assumption))) | exact h_)) : Below B w W1 := f h.out
theorem z35_2 {P Q : Prop} (h : Aside0 (Q)) (f : Q → P := by intro h_; repeat (first | (with_reducible first | exact h_ | apply IsS57.alloc | apply IsS57.drewN | apply IsS57.drew | apply IsS57.set_0 | refine IsS57.far ?_ (Aside0.out (by assumption)) _) | exact h_)) : P := f h.out
theorem z35_3 {w W0 W1 : World} {B : Nat} (h : Aside0 (Below B w W0)) (f : Below B w W0 → Below B w W1 := by intro h_; repeat (first | (with_reducible first | exact h_ | apply below_alloc | apply pw_below_drewN | apply below_drew1 | refine below_set ?_ (IsS57.ge (Aside0.out (by assumption))) | refine below_set ?_ (Aside0.out (by assumption))) | exact h_)) : Below B w W1 := f h.out
set_option maxHeartbeats 8000000 in
set_option maxRecDepth 100000 in
theorem impl_SubtractIntervals.calls (k : Nat) (a0_0 : Int) (a0_1 : Int) (a0_2 : Int) (a0_3 : Int) (a1_0 : Int) (a1_1 : Int) (a1_2 : Int) (a1_3 : Int) (r1 : Int) (r2 : Int) (r3 : Int) (r4 : Int) (r5 : Bool) (w : World) (h : impl_SubtractIntervals.f k a0_0 a0_1 a0_2 a0_3 a1_0 a1_1 a1_2 a1_3 = some (r1, r2, r3, r4, r5)) :
  Calls Try.prog 35 #[.agg #[.int .i64 a0_0, .int .i64 a0_1, .int .i64 a0_2, .int .i64 a0_3], .agg #[.int .i64 a1_0, .int .i64 a1_1, .int .i64 a1_2, .int .i64 a1_3]] w fun e w' => e = .returned (.tuple #[.agg #[.int .i64 r1, .int .i64 r2, .int .i64 r3, .int .i64 r4], .bool r5]) ∧ Below w.heap.size w w' := by
 have hu29 := Try.underlying29
 have hu57 := Try.underlying57
 have HB := Aside0.mk (Below.refl w.heap.size w)
 have H : ((impl_isInterval.f k a0_0 a0_1 a0_2 a0_3).bind fun t742 => (if t742 = true then ((impl_isInterval.f k a1_0 a1_1 a1_2 a1_3).bind fun t743 => (impl_SubtractIntervals.j0 k (!t743) a0_0 a0_1 a0_2 a0_3 a1_0 a1_1 a1_2 a1_3)) else (impl_SubtractIntervals.j0 k true a0_0 a0_1 a0_2 a0_3 a1_0 a1_1 a1_2 a1_3))) = some (r1, r2, r3, r4, r5) := h
 clear h
 have HC3 := Aside0.mk H
 clear H
 go_enter Try.func35, Try.ntmps35
 go_upto_region 1 with (first | ((with_reducible refine gate_dst (N := 2) rfl ?_); refine box_event ?hg (N := 2) ?hd (cs := #[.int .i64 a0_0, .int .i64 a0_1, .int .i64 a0_2, .int .i64 a0_3]) (t := 29) ?hr ?_; (case hd => rfl); (case hg => rfl); (case hr => first | (go_simp; done) | (go_simp; rfl)); intro gb739 hg w4 hbox hb; have n0_ := Aside0.mk (below_step (z35_0 HB) hb); have n1_ := Aside0.mk (hbox); have n2_ := Aside0.mk ((by rw [hg]; exact (below_size (z35_0 HB)) : w.heap.size ≤ gb739)); have n3_ := Aside0.mk ((by rw [hg]; exact (below_size (z35_0 HB)) : w.heap.size ≤ gb739)); clear HB; have HB := n0_; have BK739 := n1_; have GW739 := n2_; have GE739 := n3_; clear n0_ n1_ n2_ n3_; clear hb hbox hg) | ((with_reducible refine gate_dst (N := 3) rfl ?_); refine box_event ?hg (N := 3) ?hd (cs := #[.int .i64 a1_0, .int .i64 a1_1, .int .i64 a1_2, .int .i64 a1_3]) (t := 29) ?hr ?_; (case hd => rfl); (case hg => rfl); (case hr => first | (go_simp; done) | (go_simp; rfl)); intro gb740 hg w5 hbox hb; have n0_ := Aside0.mk (zbb BK739 hb); have n1_ := Aside0.mk (below_step (z35_1 HB) hb); have n2_ := Aside0.mk (hbox); have n3_ := Aside0.mk ((by rw [hg]; exact (below_size (z35_1 HB)) : w.heap.size ≤ gb740)); have n4_ := Aside0.mk ((by rw [hg]; exact (below_size (z35_1 HB)) : w.heap.size ≤ gb740)); have n5_ := Aside0.mk (zlt BK739 hg); have n6_ := Aside0.mk (zgt BK739 hg); clear BK739; clear HB; have BK739 := n0_; have HB := n1_; have BK740 := n2_; have GW740 := n3_; have GE740 := n4_; have NB739_740 := n5_; have NB740_739 := n6_; clear n0_ n1_ n2_ n3_ n4_ n5_ n6_; clear hb hbox hg) | ((with_reducible refine gate_dst (N := 4) rfl ?_); refine box_event ?hg (N := 4) ?hd (cs := #[.int .i64 0, .int .i64 0, .int .i64 0, .int .i64 0]) (t := 29) ?hr ?_; (case hd => rfl); (case hg => rfl); (case hr => first | (go_simp; done) | (go_simp; rfl)); intro gb741 hg w6 hbox hb; have n0_ := Aside0.mk (zbb BK739 hb); have n1_ := Aside0.mk (zbb BK740 hb); have n2_ := Aside0.mk (below_step (z35_1 HB) hb); have n3_ := Aside0.mk (hbox); have n4_ := Aside0.mk ((by rw [hg]; exact (below_size (z35_1 HB)) : w.heap.size ≤ gb741)); have n5_ := Aside0.mk ((by rw [hg]; exact (below_size (z35_1 HB)) : w.heap.size ≤ gb741)); have n6_ := Aside0.mk (zlt BK739 hg); have n7_ := Aside0.mk (zgt BK739 hg); have n8_ := Aside0.mk (zlt BK740 hg); have n9_ := Aside0.mk (zgt BK740 hg); clear BK739; clear BK740; clear HB; have BK739 := n0_; have BK740 := n1_; have HB := n2_; have BK741 := n3_; have GW741 := n4_; have GE741 := n5_; have NB739_741 := n6_; have NB741_739 := n7_; have NB740_741 := n8_; have NB741_740 := n9_; clear n0_ n1_ n2_ n3_ n4_ n5_ n6_ n7_ n8_ n9_; clear hb hbox hg))
 (try simp only [Act.put, List.setIfInBounds_toArray, List.set_cons_zero, List.set_cons_succ])
 go_cut [14] (fun v14 wc => ∃ (kq : Nat) (x14_2 : Bool), v14 = .bool x14_2 ∧ Aside0 (impl_SubtractIntervals.j0 kq x14_2 a0_0 a0_1 a0_2 a0_3 a1_0 a1_1 a1_2 a1_3 = some (r1, r2, r3, r4, r5)) ∧ Aside0 (kq ≤ k) ∧ Aside0 (wc.heap[gb739]? = some (.cells #[.int .i64 a0_0, .int .i64 a0_1, .int .i64 a0_2, .int .i64 a0_3] 29 (0, 0))) ∧ Aside0 (wc.heap[gb740]? = some (.cells #[.int .i64 a1_0, .int .i64 a1_1, .int .i64 a1_2, .int .i64 a1_3] 29 (0, 0))) ∧ Aside0 (wc.heap[gb741]? = some (.cells #[.int .i64 0, .int .i64 0, .int .i64 0, .int .i64 0] 29 (0, 0))) ∧ Aside0 (Below w.heap.size w wc))
 case first =>
  have H := HC3.out
  clear HC3
  replace H := Option.bind_eq_some_iff.mp H
  obtain ⟨t742, A70, H⟩ := H
  replace H : (if t742 = true then ((impl_isInterval.f k a1_0 a1_1 a1_2 a1_3).bind fun t743 => (impl_SubtractIntervals.j0 k (!t743) a0_0 a0_1 a0_2 a0_3 a1_0 a1_1 a1_2 a1_3)) else (impl_SubtractIntervals.j0 k true a0_0 a0_1 a0_2 a0_3 a1_0 a1_1 a1_2 a1_3)) = some (r1, r2, r3, r4, r5) := H
  have A7 := Aside0.mk A70
  clear A70
  by_cases c8 : t742 = true
  ·
   subst c8
   have H1 : ((impl_isInterval.f k a1_0 a1_1 a1_2 a1_3).bind fun t743 => (impl_SubtractIntervals.j0 k (!t743) a0_0 a0_1 a0_2 a0_3 a1_0 a1_1 a1_2 a1_3)) = some (r1, r2, r3, r4, r5) := by rw [if_pos rfl] at H; exact H
   clear H
   have H := H1
   clear H1
   replace H := Option.bind_eq_some_iff.mp H
   obtain ⟨t743, A90, H⟩ := H
   replace H : (impl_SubtractIntervals.j0 k (!t743) a0_0 a0_1 a0_2 a0_3 a1_0 a1_1 a1_2 a1_3) = some (r1, r2, r3, r4, r5) := H
   have A9 := Aside0.mk A90
   clear A90
   have H' := Aside0.mk H
   clear H
   have hnb10 := NB739_740.out
   have hnc10 := NB740_739.out
   have hnb11 := NB739_741.out
   have hnc11 := NB741_739.out
   have hcz12_0 : w6.cell? ⟨gb739, 0, none⟩ = some (.int .i64 a0_0) := zc BK739 0
   have hcz12_1 : w6.cell? ⟨gb739, 1, none⟩ = some (.int .i64 a0_1) := zc BK739 1
   have hcz12_2 : w6.cell? ⟨gb739, 2, none⟩ = some (.int .i64 a0_2) := zc BK739 2
   have hcz12_3 : w6.cell? ⟨gb739, 3, none⟩ = some (.int .i64 a0_3) := zc BK739 3
   have hfz12_0 := blk_frozen BK739.out 0
   have hfz12_1 := blk_frozen BK739.out 1
   have hfz12_2 := blk_frozen BK739.out 2
   have hfz12_3 := blk_frozen BK739.out 3
   go_wp2_with (first | ((with_reducible refine gate_callee (f := 44) rfl ?_); refine goesL_ (some 8) rfl rfl Try.func44 (by kernel_rfl) rfl #[.agg #[.int .i64 a0_0, .int .i64 a0_1, .int .i64 a0_2, .int .i64 a0_3]] rfl (by (try simp only [List.map_toArray, List.map_cons, List.map_nil]); first | done | rfl | (simp only [List.length_drop, List.length_take]; rfl)) ?_; (with_reducible refine (impl_isInterval.calls k a0_0 a0_1 a0_2 a0_3 true _ A7.out).mono ?_); rintro e w13 ⟨rfl, hb⟩; refine ⟨_, rfl, ?_⟩; have n0_ := Aside0.mk (zbb BK739 hb); have n1_ := Aside0.mk (zbb BK740 hb); have n2_ := Aside0.mk (zbb BK741 hb); have n3_ := Aside0.mk (below_step (z35_1 HB) hb); clear BK739; clear BK740; clear BK741; clear HB; have BK739 := n0_; have BK740 := n1_; have BK741 := n2_; have HB := n3_; clear n0_ n1_ n2_ n3_; (try clear hb); (try clear hb2); (try clear hk); (try clear hi); have hnb14 := NB740_741.out; have hnc14 := NB741_740.out; have hcz15_0 : w13.cell? ⟨gb740, 0, none⟩ = some (.int .i64 a1_0) := zc BK740 0; have hcz15_1 : w13.cell? ⟨gb740, 1, none⟩ = some (.int .i64 a1_1) := zc BK740 1; have hcz15_2 : w13.cell? ⟨gb740, 2, none⟩ = some (.int .i64 a1_2) := zc BK740 2; have hcz15_3 : w13.cell? ⟨gb740, 3, none⟩ = some (.int .i64 a1_3) := zc BK740 3; have hfz15_0 := blk_frozen BK740.out 0; have hfz15_1 := blk_frozen BK740.out 1; have hfz15_2 := blk_frozen BK740.out 2; have hfz15_3 := blk_frozen BK740.out 3) | (go_at_call 44; (with_reducible refine (impl_isInterval.calls k a1_0 a1_1 a1_2 a1_3 t743 _ A9.out).mono ?_); rintro e w16 ⟨rfl, hb⟩; have n0_ := Aside0.mk (zbb BK739 hb); have n1_ := Aside0.mk (zbb BK740 hb); have n2_ := Aside0.mk (zbb BK741 hb); have n3_ := Aside0.mk (below_step (z35_1 HB) hb); clear BK739; clear BK740; clear BK741; clear HB; have BK739 := n0_; have BK740 := n1_; have BK741 := n2_; have HB := n3_; clear n0_ n1_ n2_ n3_; (try clear hb); (try clear hb2); (try clear hk); (try clear hi)))
   go_meet
   case rel => exact ⟨_, (!t743), (by first | rfl | (simp; done) | (simp [*]; done)), H', ⟨by first | omega | exact Nat.le_refl _⟩, ⟨by (with_reducible repeat (first | refine blk_drewN ?_ _ | refine blk_drew ?_ | refine blk_alloc ?_ _)); exact BK739.out⟩, ⟨by (with_reducible repeat (first | refine blk_drewN ?_ _ | refine blk_drew ?_ | refine blk_alloc ?_ _)); exact BK740.out⟩, ⟨by (with_reducible repeat (first | refine blk_drewN ?_ _ | refine blk_drew ?_ | refine blk_alloc ?_ _)); exact BK741.out⟩, ⟨(z35_1 HB)⟩⟩
  ·
   replace c8 := Bool.eq_false_iff.mpr c8
   subst c8
   have H1 : (impl_SubtractIntervals.j0 k true a0_0 a0_1 a0_2 a0_3 a1_0 a1_1 a1_2 a1_3) = some (r1, r2, r3, r4, r5) := by rw [if_neg (show ¬ (false = true) by decide)] at H; exact H
   clear H
   have H := H1
   clear H1
   have H' := Aside0.mk H
   clear H
   have hnb17 := NB739_740.out
   have hnc17 := NB740_739.out
   have hnb18 := NB739_741.out
   have hnc18 := NB741_739.out
   have hcz19_0 : w6.cell? ⟨gb739, 0, none⟩ = some (.int .i64 a0_0) := zc BK739 0
   have hcz19_1 : w6.cell? ⟨gb739, 1, none⟩ = some (.int .i64 a0_1) := zc BK739 1
   have hcz19_2 : w6.cell? ⟨gb739, 2, none⟩ = some (.int .i64 a0_2) := zc BK739 2
   have hcz19_3 : w6.cell? ⟨gb739, 3, none⟩ = some (.int .i64 a0_3) := zc BK739 3
   have hfz19_0 := blk_frozen BK739.out 0
   have hfz19_1 := blk_frozen BK739.out 1
   have hfz19_2 := blk_frozen BK739.out 2
   have hfz19_3 := blk_frozen BK739.out 3
   go_wp2_with (first | ((with_reducible refine gate_callee (f := 44) rfl ?_); refine goesL_ (some 8) rfl rfl Try.func44 (by kernel_rfl) rfl #[.agg #[.int .i64 a0_0, .int .i64 a0_1, .int .i64 a0_2, .int .i64 a0_3]] rfl (by (try simp only [List.map_toArray, List.map_cons, List.map_nil]); first | done | rfl | (simp only [List.length_drop, List.length_take]; rfl)) ?_; (with_reducible refine (impl_isInterval.calls k a0_0 a0_1 a0_2 a0_3 false _ A7.out).mono ?_); rintro e w20 ⟨rfl, hb⟩; refine ⟨_, rfl, ?_⟩; have n0_ := Aside0.mk (zbb BK739 hb); have n1_ := Aside0.mk (zbb BK740 hb); have n2_ := Aside0.mk (zbb BK741 hb); have n3_ := Aside0.mk (below_step (z35_1 HB) hb); clear BK739; clear BK740; clear BK741; clear HB; have BK739 := n0_; have BK740 := n1_; have BK741 := n2_; have HB := n3_; clear n0_ n1_ n2_ n3_; (try clear hb); (try clear hb2); (try clear hk); (try clear hi)))
   go_meet
   case rel => exact ⟨_, (true), (by first | rfl | (simp; done) | (simp [*]; done)), H', ⟨by first | omega | exact Nat.le_refl _⟩, ⟨by (with_reducible repeat (first | refine blk_drewN ?_ _ | refine blk_drew ?_ | refine blk_alloc ?_ _)); exact BK739.out⟩, ⟨by (with_reducible repeat (first | refine blk_drewN ?_ _ | refine blk_drew ?_ | refine blk_alloc ?_ _)); exact BK740.out⟩, ⟨by (with_reducible repeat (first | refine blk_drewN ?_ _ | refine blk_drew ?_ | refine blk_alloc ?_ _)); exact BK741.out⟩, ⟨(z35_1 HB)⟩⟩
 case rest =>
  clear HC3
  try clear c1
  try clear p2
  try clear c3
  try clear c4
  try clear c8
  try clear c10
  try clear c11
  try clear c14
  try clear c17
  try clear c18
  try clear hcz12_0
  try clear hcz12_1
  try clear hcz12_2
  try clear hcz12_3
  try clear hcz15_0
  try clear hcz15_1
  try clear hcz15_2
  try clear hcz15_3
  try clear hcz19_0
  try clear hcz19_1
  try clear hcz19_2
  try clear hcz19_3
  try clear hfz12_0
  try clear hfz12_1
  try clear hfz12_2
  try clear hfz12_3
  try clear hfz15_0
  try clear hfz15_1
  try clear hfz15_2
  try clear hfz15_3
  try clear hfz19_0
  try clear hfz19_1
  try clear hfz19_2
  try clear hfz19_3
  obtain ⟨kq, x14_2, rfl, HA, HJ2, BK739, BK740, BK741, HB⟩ := hcut
  cases kq with
  | zero => exact absurd HA.out (by simp [impl_SubtractIntervals.j0])
  | succ kj2 =>
   have H := HA.out
   clear HA
   simp only [impl_SubtractIntervals.j0] at H
   by_cases c21 : x14_2 = true
   ·
    subst c21
    have H1 : (some (0, 0, 0, 0, false)) = some (r1, r2, r3, r4, r5) := by rw [if_pos rfl] at H; exact H
    clear H
    have H := H1
    clear H1
    simp only [Option.some.injEq, Prod.mk.injEq] at H
    obtain ⟨rfl, rfl, rfl, rfl, rfl⟩ := H
    have hnb22 := NB741_739.out
    have hnc22 := NB739_741.out
    have hnb23 := NB741_740.out
    have hnc23 := NB740_741.out
    have hcz24_0 : wc.cell? ⟨gb741, 0, none⟩ = some (.int .i64 0) := zc BK741 0
    have hcz24_1 : wc.cell? ⟨gb741, 1, none⟩ = some (.int .i64 0) := zc BK741 1
    have hcz24_2 : wc.cell? ⟨gb741, 2, none⟩ = some (.int .i64 0) := zc BK741 2
    have hcz24_3 : wc.cell? ⟨gb741, 3, none⟩ = some (.int .i64 0) := zc BK741 3
    have hfz24_0 := blk_frozen BK741.out 0
    have hfz24_1 := blk_frozen BK741.out 1
    have hfz24_2 := blk_frozen BK741.out 2
    have hfz24_3 := blk_frozen BK741.out 3
    go_wp2
    refine bodyPost_ret (results_ct rfl _ _ gb741 29 #[.int .i64 0, .int .i64 0, .int .i64 0, .int .i64 0] (0, 0) _ rfl (by (with_reducible repeat (first | refine blk_drewN ?_ _ | refine blk_drew ?_ | refine blk_alloc ?_ _)); refine blk_put (cs := #[.int .i64 0, .int .i64 0, .int .i64 0, .int .i64 0]) ?_ 3 _ rfl; (with_reducible repeat (first | refine blk_drewN ?_ _ | refine blk_drew ?_ | refine blk_alloc ?_ _)); refine blk_put (cs := #[.int .i64 0, .int .i64 0, .int .i64 0, .int .i64 0]) ?_ 2 _ rfl; (with_reducible repeat (first | refine blk_drewN ?_ _ | refine blk_drew ?_ | refine blk_alloc ?_ _)); refine blk_put (cs := #[.int .i64 0, .int .i64 0, .int .i64 0, .int .i64 0]) ?_ 1 _ rfl; (with_reducible repeat (first | refine blk_drewN ?_ _ | refine blk_drew ?_ | refine blk_alloc ?_ _)); refine blk_put (cs := #[.int .i64 0, .int .i64 0, .int .i64 0, .int .i64 0]) ?_ 0 _ rfl; (with_reducible repeat (first | refine blk_drewN ?_ _ | refine blk_drew ?_ | refine blk_alloc ?_ _)); exact BK741.out) Try.underlying29 rfl (by kernel_rfl)) rfl ?_
    exact ⟨by first | rfl | (simp [errW_none, errW_some] <;> rfl) | (simp [*, errW_none, errW_some] <;> rfl), (z35_1 HB)⟩
   ·
    replace c21 := Bool.eq_false_iff.mpr c21
    subst c21
    have H1 : ((impl_reckoner_subtract.f kj2 true a0_0 a0_1 a0_2 a0_3 a1_0 a1_1 a1_2 a1_3).bind fun bt745 => ((impl_reckoner_result.f bt745.2.2.2.2 bt745.1 bt745.2.1 bt745.2.2.1 bt745.2.2.2.1).bind fun bt750 => (some (bt750.1, bt750.2.1, bt750.2.2.1, bt750.2.2.2.1, bt750.2.2.2.2.1)))) = some (r1, r2, r3, r4, r5) := by rw [if_neg (show ¬ (false = true) by decide)] at H; exact H
    clear H
    have H := H1
    clear H1
    replace H := Option.bind_eq_some_iff.mp H
    obtain ⟨⟨t745, t746, t747, t748, t749⟩, A250, H⟩ := H
    replace H : ((impl_reckoner_result.f t749 t745 t746 t747 t748).bind fun bt750 => (some (bt750.1, bt750.2.1, bt750.2.2.1, bt750.2.2.2.1, bt750.2.2.2.2.1))) = some (r1, r2, r3, r4, r5) := H
    have A25 := Aside0.mk A250
    clear A250
    replace H := Option.bind_eq_some_iff.mp H
    obtain ⟨⟨t750, t751, t752, t753, t754, t755⟩, A260, H⟩ := H
    replace H : (some (t750, t751, t752, t753, t754)) = some (r1, r2, r3, r4, r5) := H
    have A26 := Aside0.mk A260
    clear A260
    simp only [Option.some.injEq, Prod.mk.injEq] at H
    obtain ⟨rfl, rfl, rfl, rfl, rfl⟩ := H
    go_wp2_with (first | ((with_reducible refine gate_dst (N := 17) rfl ?_); refine box_event ?hg (N := 17) ?hd (cs := #[.bool true]) (t := 57) ?hr ?_; (case hd => rfl); (case hg => rfl); (case hr => first | (go_simp; done) | (go_simp; rfl)); intro gb744 hg w27 hbox hb; have n0_ := Aside0.mk (zbb BK739 hb); have n1_ := Aside0.mk (zbb BK740 hb); have n2_ := Aside0.mk (zbb BK741 hb); have n3_ := Aside0.mk (below_step (z35_1 HB) hb); have n4_ := Aside0.mk (hbox); have n5_ := Aside0.mk ((by rw [hg]; exact (below_size (z35_1 HB)) : w.heap.size ≤ gb744)); have n6_ := Aside0.mk ((by rw [hg]; exact (below_size (z35_1 HB)) : w.heap.size ≤ gb744)); have n7_ := Aside0.mk (zlt BK739 hg); have n8_ := Aside0.mk (zgt BK739 hg); have n9_ := Aside0.mk (zlt BK740 hg); have n10_ := Aside0.mk (zgt BK740 hg); have n11_ := Aside0.mk (zlt BK741 hg); have n12_ := Aside0.mk (zgt BK741 hg); clear BK739; clear BK740; clear BK741; clear HB; have BK739 := n0_; have BK740 := n1_; have BK741 := n2_; have HB := n3_; have BK744 := n4_; have GW744 := n5_; have GE744 := n6_; have NB739_744 := n7_; have NB744_739 := n8_; have NB740_744 := n9_; have NB744_740 := n10_; have NB741_744 := n11_; have NB744_741 := n12_; clear n0_ n1_ n2_ n3_ n4_ n5_ n6_ n7_ n8_ n9_ n10_ n11_ n12_; clear hb hbox hg; have hnb28 := NB739_740.out; have hnc28 := NB740_739.out; have hnb29 := NB739_741.out; have hnc29 := NB741_739.out; have hnb30 := NB739_744.out; have hnc30 := NB744_739.out; have hcz31_0 : w27.cell? ⟨gb739, 0, none⟩ = some (.int .i64 a0_0) := zc BK739 0; have hcz31_1 : w27.cell? ⟨gb739, 1, none⟩ = some (.int .i64 a0_1) := zc BK739 1; have hcz31_2 : w27.cell? ⟨gb739, 2, none⟩ = some (.int .i64 a0_2) := zc BK739 2; have hcz31_3 : w27.cell? ⟨gb739, 3, none⟩ = some (.int .i64 a0_3) := zc BK739 3; have hfz31_0 := blk_frozen BK739.out 0; have hfz31_1 := blk_frozen BK739.out 1; have hfz31_2 := blk_frozen BK739.out 2; have hfz31_3 := blk_frozen BK739.out 3; have hnb32 := NB740_741.out; have hnc32 := NB741_740.out; have hnb33 := NB740_744.out; have hnc33 := NB744_740.out; have hcz34_0 : w27.cell? ⟨gb740, 0, none⟩ = some (.int .i64 a1_0) := zc BK740 0; have hcz34_1 : w27.cell? ⟨gb740, 1, none⟩ = some (.int .i64 a1_1) := zc BK740 1; have hcz34_2 : w27.cell? ⟨gb740, 2, none⟩ = some (.int .i64 a1_2) := zc BK740 2; have hcz34_3 : w27.cell? ⟨gb740, 3, none⟩ = some (.int .i64 a1_3) := zc BK740 3; have hfz34_0 := blk_frozen BK740.out 0; have hfz34_1 := blk_frozen BK740.out 1; have hfz34_2 := blk_frozen BK740.out 2; have hfz34_3 := blk_frozen BK740.out 3; have HI744 : Aside0 (IsS57 w w27 gb744 true) := ⟨⟨(zq1 BK744), GE744.out⟩⟩) | ((with_reducible refine gate_callee (f := 66) rfl ?_); refine goesL_ (some 22) rfl rfl Try.func66 (by kernel_rfl) rfl #[.pointer (some ⟨gb744, 0, none⟩), .agg #[.int .i64 a0_0, .int .i64 a0_1, .int .i64 a0_2, .int .i64 a0_3], .agg #[.int .i64 a1_0, .int .i64 a1_1, .int .i64 a1_2, .int .i64 a1_3]] rfl (by (try simp only [List.map_toArray, List.map_cons, List.map_nil]); first | done | rfl | (simp only [List.length_drop, List.length_take]; rfl)) ?_; (with_reducible refine (impl_reckoner_subtract.calls kj2 gb744 true a0_0 a0_1 a0_2 a0_3 a1_0 a1_1 a1_2 a1_3 t745 t746 t747 t748 t749 w _ ?side1 ?side2 A25.out).mono ?_); (case side1 => exact z35_2 HI744); (case side2 => exact z35_3 HB); rintro e w35 ⟨rfl, hi, hb, hk⟩; refine ⟨_, rfl, ?_⟩; have n0_ := Aside0.mk (KeepBut.blk hk (zq1 BK739) NB739_744.out (by simp)); have n1_ := Aside0.mk (KeepBut.blk hk (zq1 BK740) NB740_744.out (by simp)); have n2_ := Aside0.mk (KeepBut.blk hk (zq1 BK741) NB741_744.out (by simp)); have n3_ := Aside0.mk (hb); have n4_ := Aside0.mk (hi); clear BK739; clear BK740; clear BK741; clear HB; clear HI744; have BK739 := n0_; have BK740 := n1_; have BK741 := n2_; have HB := n3_; have HI744 := n4_; clear n0_ n1_ n2_ n3_ n4_; (try clear hb); (try clear hb2); (try clear hk); (try clear hi)) | ((with_reducible refine gate_callee (f := 63) rfl ?_); refine goesL_ (some 23) rfl rfl Try.func63 (by kernel_rfl) rfl #[.pointer (some ⟨gb744, 0, none⟩), .agg #[.int .i64 t745, .int .i64 t746, .int .i64 t747, .int .i64 t748]] rfl (by (try simp only [List.map_toArray, List.map_cons, List.map_nil]); first | done | rfl | (simp only [List.length_drop, List.length_take]; rfl)) ?_; (with_reducible refine (impl_reckoner_result.calls gb744 t749 t745 t746 t747 t748 t750 t751 t752 t753 t754 t755 w _ ?side1 ?side2 A26.out).mono ?_); (case side1 => exact z35_2 HI744); (case side2 => exact z35_3 HB); rintro e w36 ⟨rfl, hi, hb, hk⟩; refine ⟨_, rfl, ?_⟩; have n0_ := Aside0.mk (KeepBut.blk hk (zq1 BK739) NB739_744.out (by simp)); have n1_ := Aside0.mk (KeepBut.blk hk (zq1 BK740) NB740_744.out (by simp)); have n2_ := Aside0.mk (KeepBut.blk hk (zq1 BK741) NB741_744.out (by simp)); have n3_ := Aside0.mk (hb); have n4_ := Aside0.mk (hi); clear BK739; clear BK740; clear BK741; clear HB; clear HI744; have BK739 := n0_; have BK740 := n1_; have BK741 := n2_; have HB := n3_; have HI744 := n4_; clear n0_ n1_ n2_ n3_ n4_; (try clear hb); (try clear hb2); (try clear hk); (try clear hi); have hnb37 := NB741_744.out; have hnc37 := NB744_741.out; have hcz38_0 : w36.cell? ⟨gb741, 0, none⟩ = some (.int .i64 0) := zc BK741 0; have hcz38_1 : w36.cell? ⟨gb741, 1, none⟩ = some (.int .i64 0) := zc BK741 1; have hcz38_2 : w36.cell? ⟨gb741, 2, none⟩ = some (.int .i64 0) := zc BK741 2; have hcz38_3 : w36.cell? ⟨gb741, 3, none⟩ = some (.int .i64 0) := zc BK741 3; have hfz38_0 := blk_frozen BK741.out 0; have hfz38_1 := blk_frozen BK741.out 1; have hfz38_2 := blk_frozen BK741.out 2; have hfz38_3 := blk_frozen BK741.out 3))
    refine bodyPost_ret (results_ct rfl _ _ gb741 29 #[.int .i64 t750, .int .i64 t751, .int .i64 t752, .int .i64 t753] (0, 0) _ rfl (by (with_reducible repeat (first | refine blk_drewN ?_ _ | refine blk_drew ?_ | refine blk_alloc ?_ _)); refine blk_put (cs := #[.int .i64 t750, .int .i64 t751, .int .i64 t752, .int .i64 0]) ?_ 3 _ rfl; (with_reducible repeat (first | refine blk_drewN ?_ _ | refine blk_drew ?_ | refine blk_alloc ?_ _)); refine blk_put (cs := #[.int .i64 t750, .int .i64 t751, .int .i64 0, .int .i64 0]) ?_ 2 _ rfl; (with_reducible repeat (first | refine blk_drewN ?_ _ | refine blk_drew ?_ | refine blk_alloc ?_ _)); refine blk_put (cs := #[.int .i64 t750, .int .i64 0, .int .i64 0, .int .i64 0]) ?_ 1 _ rfl; (with_reducible repeat (first | refine blk_drewN ?_ _ | refine blk_drew ?_ | refine blk_alloc ?_ _)); refine blk_put (cs := #[.int .i64 0, .int .i64 0, .int .i64 0, .int .i64 0]) ?_ 0 _ rfl; (with_reducible repeat (first | refine blk_drewN ?_ _ | refine blk_drew ?_ | refine blk_alloc ?_ _)); exact BK741.out) Try.underlying29 rfl (by kernel_rfl)) rfl ?_
    exact ⟨by first | rfl | (simp [errW_none, errW_some] <;> rfl) | (simp [*, errW_none, errW_some] <;> rfl), (z35_3 HB)⟩
end Go.Proofs.Ytinpcalgdiigiaa.PD
