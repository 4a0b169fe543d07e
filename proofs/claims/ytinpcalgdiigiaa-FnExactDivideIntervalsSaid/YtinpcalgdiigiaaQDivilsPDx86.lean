-- By wip/mk/drv.py
import Derived.Test.YtinpcalgdiigiaaQDivilsPDx0
import Derived.Test.YtinpcalgdiigiaaQDivilsPDx1
import Derived.Test.YtinpcalgdiigiaaQDivilsPDx3
import Derived.Test.YtinpcalgdiigiaaQDivilsPDx4
import Derived.Test.YtinpcalgdiigiaaQDivilsPDx11
import Derived.Test.YtinpcalgdiigiaaQDivilsPDx85
namespace Go.Proofs.Ytinpcalgdiigiaa.PD
open Go.RowKit Go.Proofs.YtinpcalgdiigiaaW.PrintWords Go.Proofs.YtinpcalgdiigiaaW.PrintLast Go.Proofs.YtinpcalgdiigiaaW.PrintMore
attribute [local go_sem] max2_int min2_int max_two min_two max_three min_three max_four min_four
set_option linter.unusedVariables false
set_option linter.unusedSimpArgs false
/-! ### impl_DivideIntervals: function 41 -/
def impl_DivideIntervals.T4 : Bool × List (List Nat × List Nat) := (true, [([], []), ([0], [0]), ([1], [1]), ([], []), ([3], [3]), ([4, 2], [4]), ([2, 5], [2, 5]), ([], []), ([6, 7, 5], [6, 7]), ([8], [8]), ([9], [9]), ([9], [9]), ([], []), ([12, 10, 8, 0, 1, 2, 3, 4, 5, 6, 7, 8, 9, 10, 12], [10, 12]), ([11, 13, 0, 1, 2, 3, 4, 5, 6, 7, 8, 9, 10, 11, 12, 13], [11])])
def impl_DivideIntervals.B4 : List Nat := [0, 1, 3, 0, 8, 31, 63, 0, 255, 511, 1023, 1023, 0, 6143, 16383]
theorem impl_DivideIntervals.tab4 : rtab .any (opsOf Try.f41 4) = impl_DivideIntervals.T4 := by kernel_rfl
theorem impl_DivideIntervals.bits4 : waitsOk impl_DivideIntervals.T4.2 impl_DivideIntervals.B4 = true := by kernel_rfl
set_option maxHeartbeats 8000000 in
set_option maxRecDepth 100000 in
theorem impl_DivideIntervals.calls (k : Nat) (a0_0 : Int) (a0_1 : Int) (a0_2 : Int) (a0_3 : Int) (a1_0 : Int) (a1_1 : Int) (a1_2 : Int) (a1_3 : Int) (r1 : Int) (r2 : Int) (r3 : Int) (r4 : Int) (r5 : Bool) (w : World) (h : impl_DivideIntervals.f k a0_0 a0_1 a0_2 a0_3 a1_0 a1_1 a1_2 a1_3 = some (r1, r2, r3, r4, r5)) :
  Calls Try.prog 41 #[.agg #[.int .i64 a0_0, .int .i64 a0_1, .int .i64 a0_2, .int .i64 a0_3], .agg #[.int .i64 a1_0, .int .i64 a1_1, .int .i64 a1_2, .int .i64 a1_3]] w fun e w' => e = .returned (.tuple #[.agg #[.int .i64 r1, .int .i64 r2, .int .i64 r3, .int .i64 r4], .bool r5]) ∧ Below w.heap.size w w' := by
 have hu29 := Try.underlying29
 have hu27 := Try.underlying27
 have HB := Aside0.mk (Below.refl w.heap.size w)
 have H : ((impl_isInterval.f k a0_0 a0_1 a0_2 a0_3).bind fun t1200 => (if t1200 = true then ((impl_isInterval.f k a1_0 a1_1 a1_2 a1_3).bind fun t1201 => (if t1201 = true then ((impl_signOf.f a1_0 a1_1 a1_2 a1_3).bind fun t1202 => (impl_DivideIntervals.j0 k (t1202 == 0) a0_0 a0_1 a0_2 a0_3 a1_0 a1_1 a1_2 a1_3)) else (impl_DivideIntervals.j0 k true a0_0 a0_1 a0_2 a0_3 a1_0 a1_1 a1_2 a1_3))) else (impl_DivideIntervals.j0 k true a0_0 a0_1 a0_2 a0_3 a1_0 a1_1 a1_2 a1_3))) = some (r1, r2, r3, r4, r5) := h
 clear h
 have HC3 := Aside0.mk H
 clear H
 go_enter Try.func41, Try.ntmps41
 go_upto_region 1 with (first | ((with_reducible refine gate_dst (N := 2) rfl ?_); refine zbe (N := 2) (cs := #[.int .i64 a0_0, .int .i64 a0_1, .int .i64 a0_2, .int .i64 a0_3]) (t := 29) ?_; intro gb1197 hg w4 hbox hb; have BK1197 := Aside0.mk (hbox); have GW1197 := Aside0.mk (zge (zb0 HB) hg); have GE1197 := GW1197; replace HB := Aside0.mk (below_step (zb0 HB) hb); clear hb hbox hg) | ((with_reducible refine gate_dst (N := 3) rfl ?_); refine zbe (N := 3) (cs := #[.int .i64 a1_0, .int .i64 a1_1, .int .i64 a1_2, .int .i64 a1_3]) (t := 29) ?_; intro gb1198 hg w5 hbox hb; have BK1198 := Aside0.mk (hbox); have GW1198 := Aside0.mk (zge (zb1 HB) hg); have GE1198 := GW1198; have NB1197_1198 := Aside0.mk (zlt BK1197 hg); have NB1198_1197 := Aside0.mk (zgt BK1197 hg); replace BK1197 := Aside0.mk (zbb BK1197 hb); replace HB := Aside0.mk (below_step (zb1 HB) hb); clear hb hbox hg) | ((with_reducible refine gate_dst (N := 4) rfl ?_); refine zbe (N := 4) (cs := #[.int .i64 0, .int .i64 0, .int .i64 0, .int .i64 0]) (t := 29) ?_; intro gb1199 hg w6 hbox hb; have BK1199 := Aside0.mk (hbox); have GW1199 := Aside0.mk (zge (zb1 HB) hg); have GE1199 := GW1199; have NB1197_1199 := Aside0.mk (zlt BK1197 hg); have NB1199_1197 := Aside0.mk (zgt BK1197 hg); have NB1198_1199 := Aside0.mk (zlt BK1198 hg); have NB1199_1198 := Aside0.mk (zgt BK1198 hg); replace BK1197 := Aside0.mk (zbb BK1197 hb); replace BK1198 := Aside0.mk (zbb BK1198 hb); replace HB := Aside0.mk (below_step (zb1 HB) hb); clear hb hbox hg))
 (try simp only [Act.put, List.setIfInBounds_toArray, List.set_cons_zero, List.set_cons_succ])
 go_cut [22] (fun v22 wc => ∃ (kq : Nat) (x22_2 : Bool), v22 = .bool x22_2 ∧ Aside0 (impl_DivideIntervals.j0 kq x22_2 a0_0 a0_1 a0_2 a0_3 a1_0 a1_1 a1_2 a1_3 = some (r1, r2, r3, r4, r5)) ∧ Aside0 (kq ≤ k) ∧ Aside0 (wc.heap[gb1197]? = some (.cells #[.int .i64 a0_0, .int .i64 a0_1, .int .i64 a0_2, .int .i64 a0_3] 29 (0, 0))) ∧ Aside0 (wc.heap[gb1198]? = some (.cells #[.int .i64 a1_0, .int .i64 a1_1, .int .i64 a1_2, .int .i64 a1_3] 29 (0, 0))) ∧ Aside0 (wc.heap[gb1199]? = some (.cells #[.int .i64 0, .int .i64 0, .int .i64 0, .int .i64 0] 29 (0, 0))) ∧ Aside0 (Below w.heap.size w wc))
 case first =>
  have H := HC3.out
  clear HC3
  replace H := Option.bind_eq_some_iff.mp H
  obtain ⟨t1200, A70, H⟩ := H
  replace H : (if t1200 = true then ((impl_isInterval.f k a1_0 a1_1 a1_2 a1_3).bind fun t1201 => (if t1201 = true then ((impl_signOf.f a1_0 a1_1 a1_2 a1_3).bind fun t1202 => (impl_DivideIntervals.j0 k (t1202 == 0) a0_0 a0_1 a0_2 a0_3 a1_0 a1_1 a1_2 a1_3)) else (impl_DivideIntervals.j0 k true a0_0 a0_1 a0_2 a0_3 a1_0 a1_1 a1_2 a1_3))) else (impl_DivideIntervals.j0 k true a0_0 a0_1 a0_2 a0_3 a1_0 a1_1 a1_2 a1_3)) = some (r1, r2, r3, r4, r5) := H
  have A7 := Aside0.mk A70
  clear A70
  by_cases c8 : t1200 = true
  ·
   subst c8
   have H1 : ((impl_isInterval.f k a1_0 a1_1 a1_2 a1_3).bind fun t1201 => (if t1201 = true then ((impl_signOf.f a1_0 a1_1 a1_2 a1_3).bind fun t1202 => (impl_DivideIntervals.j0 k (t1202 == 0) a0_0 a0_1 a0_2 a0_3 a1_0 a1_1 a1_2 a1_3)) else (impl_DivideIntervals.j0 k true a0_0 a0_1 a0_2 a0_3 a1_0 a1_1 a1_2 a1_3))) = some (r1, r2, r3, r4, r5) := by rw [if_pos rfl] at H; exact H
   clear H
   have H := H1
   clear H1
   replace H := Option.bind_eq_some_iff.mp H
   obtain ⟨t1201, A90, H⟩ := H
   replace H : (if t1201 = true then ((impl_signOf.f a1_0 a1_1 a1_2 a1_3).bind fun t1202 => (impl_DivideIntervals.j0 k (t1202 == 0) a0_0 a0_1 a0_2 a0_3 a1_0 a1_1 a1_2 a1_3)) else (impl_DivideIntervals.j0 k true a0_0 a0_1 a0_2 a0_3 a1_0 a1_1 a1_2 a1_3)) = some (r1, r2, r3, r4, r5) := H
   have A9 := Aside0.mk A90
   clear A90
   by_cases c10 : t1201 = true
   ·
    subst c10
    have H1 : ((impl_signOf.f a1_0 a1_1 a1_2 a1_3).bind fun t1202 => (impl_DivideIntervals.j0 k (t1202 == 0) a0_0 a0_1 a0_2 a0_3 a1_0 a1_1 a1_2 a1_3)) = some (r1, r2, r3, r4, r5) := by rw [if_pos rfl] at H; exact H
    clear H
    have H := H1
    clear H1
    replace H := Option.bind_eq_some_iff.mp H
    obtain ⟨t1202, A110, H⟩ := H
    replace H : (impl_DivideIntervals.j0 k (t1202 == 0) a0_0 a0_1 a0_2 a0_3 a1_0 a1_1 a1_2 a1_3) = some (r1, r2, r3, r4, r5) := H
    have A11 := Aside0.mk A110
    clear A110
    have H' := Aside0.mk H
    clear H
    have hnb12 := NB1197_1198.out
    have hnc12 := NB1198_1197.out
    have hnb13 := NB1197_1199.out
    have hnc13 := NB1199_1197.out
    have hcz14_0 : w6.cell? ⟨gb1197, 0, none⟩ = some (.int .i64 a0_0) := zc BK1197 0
    have hcz14_1 : w6.cell? ⟨gb1197, 1, none⟩ = some (.int .i64 a0_1) := zc BK1197 1
    have hcz14_2 : w6.cell? ⟨gb1197, 2, none⟩ = some (.int .i64 a0_2) := zc BK1197 2
    have hcz14_3 : w6.cell? ⟨gb1197, 3, none⟩ = some (.int .i64 a0_3) := zc BK1197 3
    have hfz14_0 := blk_frozen BK1197.out 0
    have hfz14_1 := blk_frozen BK1197.out 1
    have hfz14_2 := blk_frozen BK1197.out 2
    have hfz14_3 := blk_frozen BK1197.out 3
    go_wp2_with (first | ((with_reducible refine gate_callee (f := 44) rfl ?_); refine goesL_ (some 11) rfl rfl Try.func44 (by kernel_rfl) rfl #[.agg #[.int .i64 a0_0, .int .i64 a0_1, .int .i64 a0_2, .int .i64 a0_3]] rfl zq6 ?_; (with_reducible refine (impl_isInterval.calls k a0_0 a0_1 a0_2 a0_3 true _ A7.out).mono ?_); rintro e w15 ⟨rfl, hb⟩; refine ⟨_, rfl, ?_⟩; replace BK1197 := Aside0.mk (zbb BK1197 hb); replace BK1198 := Aside0.mk (zbb BK1198 hb); replace BK1199 := Aside0.mk (zbb BK1199 hb); replace HB := Aside0.mk (below_step (zb1 HB) hb); (try clear hb); (try clear hb2); (try clear hk); (try clear hi); have hnb16 := NB1198_1199.out; have hnc16 := NB1199_1198.out; have hcz17_0 : w15.cell? ⟨gb1198, 0, none⟩ = some (.int .i64 a1_0) := zc BK1198 0; have hcz17_1 : w15.cell? ⟨gb1198, 1, none⟩ = some (.int .i64 a1_1) := zc BK1198 1; have hcz17_2 : w15.cell? ⟨gb1198, 2, none⟩ = some (.int .i64 a1_2) := zc BK1198 2; have hcz17_3 : w15.cell? ⟨gb1198, 3, none⟩ = some (.int .i64 a1_3) := zc BK1198 3; have hfz17_0 := blk_frozen BK1198.out 0; have hfz17_1 := blk_frozen BK1198.out 1; have hfz17_2 := blk_frozen BK1198.out 2; have hfz17_3 := blk_frozen BK1198.out 3) | (go_at_call 44; (with_reducible refine (impl_isInterval.calls k a1_0 a1_1 a1_2 a1_3 true _ A9.out).mono ?_); rintro e w18 ⟨rfl, hb⟩; replace BK1197 := Aside0.mk (zbb BK1197 hb); replace BK1198 := Aside0.mk (zbb BK1198 hb); replace BK1199 := Aside0.mk (zbb BK1199 hb); replace HB := Aside0.mk (below_step (zb1 HB) hb); (try clear hb); (try clear hb2); (try clear hk); (try clear hi); have hcz19_0 : w18.cell? ⟨gb1198, 0, none⟩ = some (.int .i64 a1_0) := zc BK1198 0; have hcz19_1 : w18.cell? ⟨gb1198, 1, none⟩ = some (.int .i64 a1_1) := zc BK1198 1; have hcz19_2 : w18.cell? ⟨gb1198, 2, none⟩ = some (.int .i64 a1_2) := zc BK1198 2; have hcz19_3 : w18.cell? ⟨gb1198, 3, none⟩ = some (.int .i64 a1_3) := zc BK1198 3; have hfz19_0 := blk_frozen BK1198.out 0; have hfz19_1 := blk_frozen BK1198.out 1; have hfz19_2 := blk_frozen BK1198.out 2; have hfz19_3 := blk_frozen BK1198.out 3) | (go_at_call 49; (with_reducible refine (impl_signOf.calls a1_0 a1_1 a1_2 a1_3 t1202 _ A11.out).mono ?_); rintro e w20 ⟨rfl, hb⟩; replace BK1197 := Aside0.mk (zbb BK1197 hb); replace BK1198 := Aside0.mk (zbb BK1198 hb); replace BK1199 := Aside0.mk (zbb BK1199 hb); replace HB := Aside0.mk (below_step (zb1 HB) hb); (try clear hb); (try clear hb2); (try clear hk); (try clear hi)))
    go_meet
    case rel => exact ⟨_, ((t1202 == 0)), (by first | rfl | (simp; done) | (simp [*]; done)), H', ⟨by first | omega | exact Nat.le_refl _⟩, ⟨by (with_reducible repeat (first | refine blk_drewN ?_ _ | refine blk_drew ?_ | refine blk_alloc ?_ _)); exact BK1197.out⟩, ⟨by (with_reducible repeat (first | refine blk_drewN ?_ _ | refine blk_drew ?_ | refine blk_alloc ?_ _)); exact BK1198.out⟩, ⟨by (with_reducible repeat (first | refine blk_drewN ?_ _ | refine blk_drew ?_ | refine blk_alloc ?_ _)); exact BK1199.out⟩, ⟨(zb1 HB)⟩⟩
   ·
    replace c10 := Bool.eq_false_iff.mpr c10
    subst c10
    have H1 : (impl_DivideIntervals.j0 k true a0_0 a0_1 a0_2 a0_3 a1_0 a1_1 a1_2 a1_3) = some (r1, r2, r3, r4, r5) := by rw [if_neg (show ¬ (false = true) by decide)] at H; exact H
    clear H
    have H := H1
    clear H1
    have H' := Aside0.mk H
    clear H
    have hnb21 := NB1197_1198.out
    have hnc21 := NB1198_1197.out
    have hnb22 := NB1197_1199.out
    have hnc22 := NB1199_1197.out
    have hcz23_0 : w6.cell? ⟨gb1197, 0, none⟩ = some (.int .i64 a0_0) := zc BK1197 0
    have hcz23_1 : w6.cell? ⟨gb1197, 1, none⟩ = some (.int .i64 a0_1) := zc BK1197 1
    have hcz23_2 : w6.cell? ⟨gb1197, 2, none⟩ = some (.int .i64 a0_2) := zc BK1197 2
    have hcz23_3 : w6.cell? ⟨gb1197, 3, none⟩ = some (.int .i64 a0_3) := zc BK1197 3
    have hfz23_0 := blk_frozen BK1197.out 0
    have hfz23_1 := blk_frozen BK1197.out 1
    have hfz23_2 := blk_frozen BK1197.out 2
    have hfz23_3 := blk_frozen BK1197.out 3
    go_wp2_with (first | ((with_reducible refine gate_callee (f := 44) rfl ?_); refine goesL_ (some 11) rfl rfl Try.func44 (by kernel_rfl) rfl #[.agg #[.int .i64 a0_0, .int .i64 a0_1, .int .i64 a0_2, .int .i64 a0_3]] rfl zq6 ?_; (with_reducible refine (impl_isInterval.calls k a0_0 a0_1 a0_2 a0_3 true _ A7.out).mono ?_); rintro e w24 ⟨rfl, hb⟩; refine ⟨_, rfl, ?_⟩; replace BK1197 := Aside0.mk (zbb BK1197 hb); replace BK1198 := Aside0.mk (zbb BK1198 hb); replace BK1199 := Aside0.mk (zbb BK1199 hb); replace HB := Aside0.mk (below_step (zb1 HB) hb); (try clear hb); (try clear hb2); (try clear hk); (try clear hi); have hnb25 := NB1198_1199.out; have hnc25 := NB1199_1198.out; have hcz26_0 : w24.cell? ⟨gb1198, 0, none⟩ = some (.int .i64 a1_0) := zc BK1198 0; have hcz26_1 : w24.cell? ⟨gb1198, 1, none⟩ = some (.int .i64 a1_1) := zc BK1198 1; have hcz26_2 : w24.cell? ⟨gb1198, 2, none⟩ = some (.int .i64 a1_2) := zc BK1198 2; have hcz26_3 : w24.cell? ⟨gb1198, 3, none⟩ = some (.int .i64 a1_3) := zc BK1198 3; have hfz26_0 := blk_frozen BK1198.out 0; have hfz26_1 := blk_frozen BK1198.out 1; have hfz26_2 := blk_frozen BK1198.out 2; have hfz26_3 := blk_frozen BK1198.out 3) | (go_at_call 44; (with_reducible refine (impl_isInterval.calls k a1_0 a1_1 a1_2 a1_3 false _ A9.out).mono ?_); rintro e w27 ⟨rfl, hb⟩; replace BK1197 := Aside0.mk (zbb BK1197 hb); replace BK1198 := Aside0.mk (zbb BK1198 hb); replace BK1199 := Aside0.mk (zbb BK1199 hb); replace HB := Aside0.mk (below_step (zb1 HB) hb); (try clear hb); (try clear hb2); (try clear hk); (try clear hi)))
    go_meet
    case rel => exact ⟨_, (true), (by first | rfl | (simp; done) | (simp [*]; done)), H', ⟨by first | omega | exact Nat.le_refl _⟩, ⟨by (with_reducible repeat (first | refine blk_drewN ?_ _ | refine blk_drew ?_ | refine blk_alloc ?_ _)); exact BK1197.out⟩, ⟨by (with_reducible repeat (first | refine blk_drewN ?_ _ | refine blk_drew ?_ | refine blk_alloc ?_ _)); exact BK1198.out⟩, ⟨by (with_reducible repeat (first | refine blk_drewN ?_ _ | refine blk_drew ?_ | refine blk_alloc ?_ _)); exact BK1199.out⟩, ⟨(zb1 HB)⟩⟩
  ·
   replace c8 := Bool.eq_false_iff.mpr c8
   subst c8
   have H1 : (impl_DivideIntervals.j0 k true a0_0 a0_1 a0_2 a0_3 a1_0 a1_1 a1_2 a1_3) = some (r1, r2, r3, r4, r5) := by rw [if_neg (show ¬ (false = true) by decide)] at H; exact H
   clear H
   have H := H1
   clear H1
   have H' := Aside0.mk H
   clear H
   have hnb28 := NB1197_1198.out
   have hnc28 := NB1198_1197.out
   have hnb29 := NB1197_1199.out
   have hnc29 := NB1199_1197.out
   have hcz30_0 : w6.cell? ⟨gb1197, 0, none⟩ = some (.int .i64 a0_0) := zc BK1197 0
   have hcz30_1 : w6.cell? ⟨gb1197, 1, none⟩ = some (.int .i64 a0_1) := zc BK1197 1
   have hcz30_2 : w6.cell? ⟨gb1197, 2, none⟩ = some (.int .i64 a0_2) := zc BK1197 2
   have hcz30_3 : w6.cell? ⟨gb1197, 3, none⟩ = some (.int .i64 a0_3) := zc BK1197 3
   have hfz30_0 := blk_frozen BK1197.out 0
   have hfz30_1 := blk_frozen BK1197.out 1
   have hfz30_2 := blk_frozen BK1197.out 2
   have hfz30_3 := blk_frozen BK1197.out 3
   go_wp2_with (first | ((with_reducible refine gate_callee (f := 44) rfl ?_); refine goesL_ (some 11) rfl rfl Try.func44 (by kernel_rfl) rfl #[.agg #[.int .i64 a0_0, .int .i64 a0_1, .int .i64 a0_2, .int .i64 a0_3]] rfl zq6 ?_; (with_reducible refine (impl_isInterval.calls k a0_0 a0_1 a0_2 a0_3 false _ A7.out).mono ?_); rintro e w31 ⟨rfl, hb⟩; refine ⟨_, rfl, ?_⟩; replace BK1197 := Aside0.mk (zbb BK1197 hb); replace BK1198 := Aside0.mk (zbb BK1198 hb); replace BK1199 := Aside0.mk (zbb BK1199 hb); replace HB := Aside0.mk (below_step (zb1 HB) hb); (try clear hb); (try clear hb2); (try clear hk); (try clear hi)))
   go_meet
   case rel => exact ⟨_, (true), (by first | rfl | (simp; done) | (simp [*]; done)), H', ⟨by first | omega | exact Nat.le_refl _⟩, ⟨by (with_reducible repeat (first | refine blk_drewN ?_ _ | refine blk_drew ?_ | refine blk_alloc ?_ _)); exact BK1197.out⟩, ⟨by (with_reducible repeat (first | refine blk_drewN ?_ _ | refine blk_drew ?_ | refine blk_alloc ?_ _)); exact BK1198.out⟩, ⟨by (with_reducible repeat (first | refine blk_drewN ?_ _ | refine blk_drew ?_ | refine blk_alloc ?_ _)); exact BK1199.out⟩, ⟨(zb1 HB)⟩⟩
 case rest =>
  clear HC3
  try clear c1
  try clear c2
  try clear p2
  try clear c4
  try clear c8
  try clear c10
  try clear c12
  try clear c13
  try clear c16
  try clear c21
  try clear c22
  try clear c25
  try clear c28
  try clear c29
  try clear hcz14_0
  try clear hcz14_1
  try clear hcz14_2
  try clear hcz14_3
  try clear hcz17_0
  try clear hcz17_1
  try clear hcz17_2
  try clear hcz17_3
  try clear hcz19_0
  try clear hcz19_1
  try clear hcz19_2
  try clear hcz19_3
  try clear hcz23_0
  try clear hcz23_1
  try clear hcz23_2
  try clear hcz23_3
  try clear hcz26_0
  try clear hcz26_1
  try clear hcz26_2
  try clear hcz26_3
  try clear hcz30_0
  try clear hcz30_1
  try clear hcz30_2
  try clear hcz30_3
  try clear hfz14_0
  try clear hfz14_1
  try clear hfz14_2
  try clear hfz14_3
  try clear hfz17_0
  try clear hfz17_1
  try clear hfz17_2
  try clear hfz17_3
  try clear hfz19_0
  try clear hfz19_1
  try clear hfz19_2
  try clear hfz19_3
  try clear hfz23_0
  try clear hfz23_1
  try clear hfz23_2
  try clear hfz23_3
  try clear hfz26_0
  try clear hfz26_1
  try clear hfz26_2
  try clear hfz26_3
  try clear hfz30_0
  try clear hfz30_1
  try clear hfz30_2
  try clear hfz30_3
  obtain ⟨kq, x22_2, rfl, HA, HJ2, BK1197, BK1198, BK1199, HB⟩ := hcut
  cases kq with
  | zero => exact absurd HA.out (by simp [impl_DivideIntervals.j0])
  | succ kj2 =>
   have H := HA.out
   clear HA
   simp only [impl_DivideIntervals.j0] at H
   by_cases c32 : x22_2 = true
   ·
    subst c32
    have H1 : (some (0, 0, 0, 0, false)) = some (r1, r2, r3, r4, r5) := by rw [if_pos rfl] at H; exact H
    clear H
    have H := H1
    clear H1
    simp only [Option.some.injEq, Prod.mk.injEq] at H
    obtain ⟨rfl, rfl, rfl, rfl, rfl⟩ := H
    have hnb33 := NB1199_1197.out
    have hnc33 := NB1197_1199.out
    have hnb34 := NB1199_1198.out
    have hnc34 := NB1198_1199.out
    have hcz35_0 : wc.cell? ⟨gb1199, 0, none⟩ = some (.int .i64 0) := zc BK1199 0
    have hcz35_1 : wc.cell? ⟨gb1199, 1, none⟩ = some (.int .i64 0) := zc BK1199 1
    have hcz35_2 : wc.cell? ⟨gb1199, 2, none⟩ = some (.int .i64 0) := zc BK1199 2
    have hcz35_3 : wc.cell? ⟨gb1199, 3, none⟩ = some (.int .i64 0) := zc BK1199 3
    have hfz35_0 := blk_frozen BK1199.out 0
    have hfz35_1 := blk_frozen BK1199.out 1
    have hfz35_2 := blk_frozen BK1199.out 2
    have hfz35_3 := blk_frozen BK1199.out 3
    go_wp2
    refine bodyPost_ret (results_ct rfl _ _ gb1199 29 #[.int .i64 0, .int .i64 0, .int .i64 0, .int .i64 0] (0, 0) _ rfl (by (with_reducible repeat (first | refine blk_drewN ?_ _ | refine blk_drew ?_ | refine blk_alloc ?_ _)); refine blk_put (cs := #[.int .i64 0, .int .i64 0, .int .i64 0, .int .i64 0]) ?_ 3 _ rfl; (with_reducible repeat (first | refine blk_drewN ?_ _ | refine blk_drew ?_ | refine blk_alloc ?_ _)); refine blk_put (cs := #[.int .i64 0, .int .i64 0, .int .i64 0, .int .i64 0]) ?_ 2 _ rfl; (with_reducible repeat (first | refine blk_drewN ?_ _ | refine blk_drew ?_ | refine blk_alloc ?_ _)); refine blk_put (cs := #[.int .i64 0, .int .i64 0, .int .i64 0, .int .i64 0]) ?_ 1 _ rfl; (with_reducible repeat (first | refine blk_drewN ?_ _ | refine blk_drew ?_ | refine blk_alloc ?_ _)); refine blk_put (cs := #[.int .i64 0, .int .i64 0, .int .i64 0, .int .i64 0]) ?_ 0 _ rfl; (with_reducible repeat (first | refine blk_drewN ?_ _ | refine blk_drew ?_ | refine blk_alloc ?_ _)); exact BK1199.out) Try.underlying29 rfl (by kernel_rfl)) rfl ?_
    exact ⟨by first | rfl | (simp [errW_none, errW_some] <;> rfl) | (simp [*, errW_none, errW_some] <;> rfl), (zb1 HB)⟩
   ·
    replace c32 := Bool.eq_false_iff.mpr c32
    subst c32
    have H1 : ((impl_leastQuotient.f kj2 a0_0 a0_1 a0_2 a0_3 a1_0 a1_1 a1_2 a1_3).bind fun bt1203 => ((impl_minus.f a0_2 a0_3).bind fun bt1207 => ((impl_minus.f a0_0 a0_1).bind fun bt1209 => ((impl_leastQuotient.f kj2 bt1207.1 bt1207.2 bt1209.1 bt1209.2 a1_0 a1_1 a1_2 a1_3).bind fun bt1211 => (if bt1203.2.2 = true then (if bt1211.2.2 = true then ((impl_minus.f bt1211.1 bt1211.2.1).bind fun bt1215 => (some (bt1203.1, bt1203.2.1, bt1215.1, bt1215.2, true))) else (some (0, 0, 0, 0, false))) else (some (0, 0, 0, 0, false))))))) = some (r1, r2, r3, r4, r5) := by rw [if_neg (show ¬ (false = true) by decide)] at H; exact H
    clear H
    have H := H1
    clear H1
    replace H := Option.bind_eq_some_iff.mp H
    obtain ⟨⟨t1203, t1204, t1205⟩, A360, H⟩ := H
    replace H : ((impl_minus.f a0_2 a0_3).bind fun bt1207 => ((impl_minus.f a0_0 a0_1).bind fun bt1209 => ((impl_leastQuotient.f kj2 bt1207.1 bt1207.2 bt1209.1 bt1209.2 a1_0 a1_1 a1_2 a1_3).bind fun bt1211 => (if t1205 = true then (if bt1211.2.2 = true then ((impl_minus.f bt1211.1 bt1211.2.1).bind fun bt1215 => (some (t1203, t1204, bt1215.1, bt1215.2, true))) else (some (0, 0, 0, 0, false))) else (some (0, 0, 0, 0, false)))))) = some (r1, r2, r3, r4, r5) := H
    have A36 := Aside0.mk A360
    clear A360
    replace H := Option.bind_eq_some_iff.mp H
    obtain ⟨⟨t1207, t1208⟩, A370, H⟩ := H
    replace H : ((impl_minus.f a0_0 a0_1).bind fun bt1209 => ((impl_leastQuotient.f kj2 t1207 t1208 bt1209.1 bt1209.2 a1_0 a1_1 a1_2 a1_3).bind fun bt1211 => (if t1205 = true then (if bt1211.2.2 = true then ((impl_minus.f bt1211.1 bt1211.2.1).bind fun bt1215 => (some (t1203, t1204, bt1215.1, bt1215.2, true))) else (some (0, 0, 0, 0, false))) else (some (0, 0, 0, 0, false))))) = some (r1, r2, r3, r4, r5) := H
    have A37 := Aside0.mk A370
    clear A370
    replace H := Option.bind_eq_some_iff.mp H
    obtain ⟨⟨t1209, t1210⟩, A380, H⟩ := H
    replace H : ((impl_leastQuotient.f kj2 t1207 t1208 t1209 t1210 a1_0 a1_1 a1_2 a1_3).bind fun bt1211 => (if t1205 = true then (if bt1211.2.2 = true then ((impl_minus.f bt1211.1 bt1211.2.1).bind fun bt1215 => (some (t1203, t1204, bt1215.1, bt1215.2, true))) else (some (0, 0, 0, 0, false))) else (some (0, 0, 0, 0, false)))) = some (r1, r2, r3, r4, r5) := H
    have A38 := Aside0.mk A380
    clear A380
    replace H := Option.bind_eq_some_iff.mp H
    obtain ⟨⟨t1211, t1212, t1213⟩, A390, H⟩ := H
    replace H : (if t1205 = true then (if t1213 = true then ((impl_minus.f t1211 t1212).bind fun bt1215 => (some (t1203, t1204, bt1215.1, bt1215.2, true))) else (some (0, 0, 0, 0, false))) else (some (0, 0, 0, 0, false))) = some (r1, r2, r3, r4, r5) := H
    have A39 := Aside0.mk A390
    clear A390
    by_cases c40 : t1205 = true
    ·
     subst c40
     have H1 : (if t1213 = true then ((impl_minus.f t1211 t1212).bind fun bt1215 => (some (t1203, t1204, bt1215.1, bt1215.2, true))) else (some (0, 0, 0, 0, false))) = some (r1, r2, r3, r4, r5) := by rw [if_pos rfl] at H; exact H
     clear H
     have H := H1
     clear H1
     by_cases c41 : t1213 = true
     ·
      subst c41
      have H1 : ((impl_minus.f t1211 t1212).bind fun bt1215 => (some (t1203, t1204, bt1215.1, bt1215.2, true))) = some (r1, r2, r3, r4, r5) := by rw [if_pos rfl] at H; exact H
      clear H
      have H := H1
      clear H1
      replace H := Option.bind_eq_some_iff.mp H
      obtain ⟨⟨t1215, t1216⟩, A420, H⟩ := H
      replace H : (some (t1203, t1204, t1215, t1216, true)) = some (r1, r2, r3, r4, r5) := H
      have A42 := Aside0.mk A420
      clear A420
      simp only [Option.some.injEq, Prod.mk.injEq] at H
      obtain ⟨rfl, rfl, rfl, rfl, rfl⟩ := H
      have hnb43 := NB1197_1198.out
      have hnc43 := NB1198_1197.out
      have hnb44 := NB1197_1199.out
      have hnc44 := NB1199_1197.out
      have hcz45_0 : wc.cell? ⟨gb1197, 0, none⟩ = some (.int .i64 a0_0) := zc BK1197 0
      have hcz45_1 : wc.cell? ⟨gb1197, 1, none⟩ = some (.int .i64 a0_1) := zc BK1197 1
      have hcz45_2 : wc.cell? ⟨gb1197, 2, none⟩ = some (.int .i64 a0_2) := zc BK1197 2
      have hcz45_3 : wc.cell? ⟨gb1197, 3, none⟩ = some (.int .i64 a0_3) := zc BK1197 3
      have hfz45_0 := blk_frozen BK1197.out 0
      have hfz45_1 := blk_frozen BK1197.out 1
      have hfz45_2 := blk_frozen BK1197.out 2
      have hfz45_3 := blk_frozen BK1197.out 3
      have hnb46 := NB1198_1199.out
      have hnc46 := NB1199_1198.out
      have hcz47_0 : wc.cell? ⟨gb1198, 0, none⟩ = some (.int .i64 a1_0) := zc BK1198 0
      have hcz47_1 : wc.cell? ⟨gb1198, 1, none⟩ = some (.int .i64 a1_1) := zc BK1198 1
      have hcz47_2 : wc.cell? ⟨gb1198, 2, none⟩ = some (.int .i64 a1_2) := zc BK1198 2
      have hcz47_3 : wc.cell? ⟨gb1198, 3, none⟩ = some (.int .i64 a1_3) := zc BK1198 3
      have hfz47_0 := blk_frozen BK1198.out 0
      have hfz47_1 := blk_frozen BK1198.out 1
      have hfz47_2 := blk_frozen BK1198.out 2
      have hfz47_3 := blk_frozen BK1198.out 3
      try go_wp2_with (first | ((with_reducible refine gate_callee (f := 74) rfl ?_); refine goesL_ (some 27) rfl rfl Try.func74 (by kernel_rfl) rfl #[.agg #[.int .i64 a0_0, .int .i64 a0_1, .int .i64 a0_2, .int .i64 a0_3], .agg #[.int .i64 a1_0, .int .i64 a1_1, .int .i64 a1_2, .int .i64 a1_3]] rfl zq6 ?_; (with_reducible refine (impl_leastQuotient.calls kj2 a0_0 a0_1 a0_2 a0_3 a1_0 a1_1 a1_2 a1_3 t1203 t1204 true _ A36.out).mono ?_); rintro e w48 ⟨rfl, hb⟩; refine ⟨_, rfl, ?_⟩; replace BK1197 := Aside0.mk (zbb BK1197 hb); replace BK1198 := Aside0.mk (zbb BK1198 hb); replace BK1199 := Aside0.mk (zbb BK1199 hb); replace HB := Aside0.mk (below_step (zb1 HB) hb); (try clear hb); (try clear hb2); (try clear hk); (try clear hi)) | ((with_reducible refine gate_dst (N := 6) rfl ?_); refine zbe (N := 6) (cs := #[.int .i64 0, .int .i64 0]) (t := 27) ?_; intro gb1206 hg w49 hbox hb; have BK1206 := Aside0.mk (hbox); have GW1206 := Aside0.mk (zge (zb1 HB) hg); have GE1206 := GW1206; have NB1197_1206 := Aside0.mk (zlt BK1197 hg); have NB1206_1197 := Aside0.mk (zgt BK1197 hg); have NB1198_1206 := Aside0.mk (zlt BK1198 hg); have NB1206_1198 := Aside0.mk (zgt BK1198 hg); have NB1199_1206 := Aside0.mk (zlt BK1199 hg); have NB1206_1199 := Aside0.mk (zgt BK1199 hg); replace BK1197 := Aside0.mk (zbb BK1197 hb); replace BK1198 := Aside0.mk (zbb BK1198 hb); replace BK1199 := Aside0.mk (zbb BK1199 hb); replace HB := Aside0.mk (below_step (zb1 HB) hb); clear hb hbox hg; have hnb50 := NB1206_1197.out; have hnc50 := NB1197_1206.out; have hnb51 := NB1206_1198.out; have hnc51 := NB1198_1206.out; have hnb52 := NB1206_1199.out; have hnc52 := NB1199_1206.out; have hcz53_0 : w49.cell? ⟨gb1206, 0, none⟩ = some (.int .i64 0) := zc BK1206 0; have hcz53_1 : w49.cell? ⟨gb1206, 1, none⟩ = some (.int .i64 0) := zc BK1206 1; have hfz53_0 := blk_frozen BK1206.out 0; have hfz53_1 := blk_frozen BK1206.out 1))
      have n0_ : Aside0 (((w49.setCell ⟨gb1206, 0, none⟩ (.int .i64 t1203)).setCell ⟨gb1206, 1, none⟩ (.int .i64 t1204)).heap[gb1197]? = some (.cells #[.int .i64 a0_0, .int .i64 a0_1, .int .i64 a0_2, .int .i64 a0_3] 29 (0, 0))) := ⟨zq5 BK1197⟩
      have n1_ : Aside0 (((w49.setCell ⟨gb1206, 0, none⟩ (.int .i64 t1203)).setCell ⟨gb1206, 1, none⟩ (.int .i64 t1204)).heap[gb1198]? = some (.cells #[.int .i64 a1_0, .int .i64 a1_1, .int .i64 a1_2, .int .i64 a1_3] 29 (0, 0))) := ⟨zq5 BK1198⟩
      have n2_ : Aside0 (((w49.setCell ⟨gb1206, 0, none⟩ (.int .i64 t1203)).setCell ⟨gb1206, 1, none⟩ (.int .i64 t1204)).heap[gb1199]? = some (.cells #[.int .i64 0, .int .i64 0, .int .i64 0, .int .i64 0] 29 (0, 0))) := ⟨zq5 BK1199⟩
      have n3_ : Aside0 (((w49.setCell ⟨gb1206, 0, none⟩ (.int .i64 t1203)).setCell ⟨gb1206, 1, none⟩ (.int .i64 t1204)).heap[gb1206]? = some (.cells #[.int .i64 t1203, .int .i64 t1204] 27 (0, 0))) := ⟨by (with_reducible repeat (first | refine blk_drewN ?_ _ | refine blk_drew ?_ | refine blk_alloc ?_ _)); refine blk_put (cs := #[.int .i64 t1203, .int .i64 0]) ?_ 1 _ rfl; (with_reducible repeat (first | refine blk_drewN ?_ _ | refine blk_drew ?_ | refine blk_alloc ?_ _)); refine blk_put (cs := #[.int .i64 0, .int .i64 0]) ?_ 0 _ rfl; (with_reducible repeat (first | refine blk_drewN ?_ _ | refine blk_drew ?_ | refine blk_alloc ?_ _)); exact BK1206.out⟩
      have n4_ : Aside0 (Below w.heap.size w ((w49.setCell ⟨gb1206, 0, none⟩ (.int .i64 t1203)).setCell ⟨gb1206, 1, none⟩ (.int .i64 t1204))) := ⟨(zb1 HB)⟩
      (try clear BK1197)
      (try clear BK1198)
      (try clear BK1199)
      (try clear BK1206)
      (try clear HB)
      generalize ((w49.setCell ⟨gb1206, 0, none⟩ (.int .i64 t1203)).setCell ⟨gb1206, 1, none⟩ (.int .i64 t1204)) = w54 at n0_ n1_ n2_ n3_ n4_ ⊢
      have BK1197 := n0_; have BK1198 := n1_; have BK1199 := n2_; have BK1206 := n3_; have HB := n4_
      clear n0_ n1_ n2_ n3_ n4_
      replace BK1197 := Aside0.mk (blk_drew BK1197.out); replace BK1198 := Aside0.mk (blk_drew BK1198.out); replace BK1199 := Aside0.mk (blk_drew BK1199.out); replace BK1206 := Aside0.mk (blk_drew BK1206.out); replace HB := Aside0.mk (below_drew1 HB.out)
      refine start_ (n := 15) (S := fun w' => w'.cell? ⟨gb1197, 0, none⟩ = some (.int .i64 a0_0) ∧ w'.cell? ⟨gb1197, 1, none⟩ = some (.int .i64 a0_1) ∧ w'.cell? ⟨gb1197, 2, none⟩ = some (.int .i64 a0_2) ∧ w'.cell? ⟨gb1197, 3, none⟩ = some (.int .i64 a0_3) ∧ w'.cell? ⟨gb1198, 0, none⟩ = some (.int .i64 a1_0) ∧ w'.cell? ⟨gb1198, 1, none⟩ = some (.int .i64 a1_1) ∧ w'.cell? ⟨gb1198, 2, none⟩ = some (.int .i64 a1_2) ∧ w'.cell? ⟨gb1198, 3, none⟩ = some (.int .i64 a1_3)) (ds := []) #[false, false, false, false, false, false, false, false, false, false, false, false, false, false, false] (by kernel_rfl) rfl rfl ⟨zc BK1197 0, zc BK1197 1, zc BK1197 2, zc BK1197 3, zc BK1198 0, zc BK1198 1, zc BK1198 2, zc BK1198 3⟩ (fun hHeld => ?_); refine with_tabW impl_DivideIntervals.tab4 impl_DivideIntervals.bits4 (fun HT_ HW_ => ?_)
      generalize w54.drew = w55 at BK1197 BK1198 BK1199 BK1206 HB hHeld ⊢
      refine zp (i := 0) (N := some 31) #[true, false, false, false, false, false, false, false, false, false, false, false, false, false, false] (any_of HT_.out (by kernel_rfl)) ?_
      refine zp (i := 3) (N := some 34) #[true, false, false, true, false, false, false, false, false, false, false, false, false, false, false] (any_of HT_.out (by kernel_rfl)) ?_
      refine take_ (i := 1) (N := some 32) (v := ?_) (a' := ?_) #[true, true, false, true, false, false, false, false, false, false, false, false, false, false, false] rfl rfl (take_ofW HT_.out HW_.out (by kernel_rfl)) (fun _ _ _ h => h) (Or.inl ⟨by rfl, ?_⟩) hHeld ?_ ?_
      rotate_left
      ·
       rintro w' ⟨s0, s1, s2, s3, s4, s5, s6, s7⟩
       go_simp
       with_reducible rfl
      rotate_left
      ·
       simp only [Act.put, List.setIfInBounds_toArray, List.set_cons_zero, List.set_cons_succ, i64_w, i32_w]
       rfl
      refine take_ (i := 4) (N := some 35) (v := ?_) (a' := ?_) #[true, true, false, true, true, false, false, false, false, false, false, false, false, false, false] rfl rfl (take_ofW HT_.out HW_.out (by kernel_rfl)) (fun _ _ _ h => h) (Or.inl ⟨by rfl, ?_⟩) hHeld ?_ ?_
      rotate_left
      ·
       rintro w' ⟨s0, s1, s2, s3, s4, s5, s6, s7⟩
       go_simp
       with_reducible rfl
      rotate_left
      ·
       simp only [Act.put, List.setIfInBounds_toArray, List.set_cons_zero, List.set_cons_succ, i64_w, i32_w]
       rfl
      refine take_ (i := 7) (N := some 38) (v := ?_) (a' := ?_) #[true, true, false, true, true, false, false, true, false, false, false, false, false, false, false] rfl rfl (take_ofW HT_.out HW_.out (by kernel_rfl)) (fun _ _ _ h => h) (Or.inl ⟨by rfl, ?_⟩) hHeld ?_ ?_
      rotate_left
      ·
       rintro w' ⟨s0, s1, s2, s3, s4, s5, s6, s7⟩
       go_simp
       with_reducible rfl
      rotate_left
      ·
       simp only [Act.put, List.setIfInBounds_toArray, List.set_cons_zero, List.set_cons_succ, i64_w, i32_w]
       rfl
      refine join_ (σ := Nat) 2 #[true, true, true, true, true, true, true, true, true, true, true, true, true, false, false] (fun s_ => [(33, .agg #[.int .i64 t1207, .int .i64 t1208]), (36, .agg #[.int .i64 t1209, .int .i64 t1210]), (39, .tuple #[.agg #[.int .i64 t1211, .int .i64 t1212], .bool true]), (8, .pointer (some ⟨s_, 0, none⟩)), (37, .agg #[.int .i64 t1207, .int .i64 t1208, .int .i64 t1209, .int .i64 t1210]), (30, .tuple #[.agg #[.int .i64 t1211, .int .i64 t1212], .bool true]), (40, .agg #[.int .i64 t1211, .int .i64 t1212]), (41, .bool true)]) (fun s_ w' => (w'.cell? ⟨gb1197, 0, none⟩ = some (.int .i64 a0_0) ∧ w'.cell? ⟨gb1197, 1, none⟩ = some (.int .i64 a0_1) ∧ w'.cell? ⟨gb1197, 2, none⟩ = some (.int .i64 a0_2) ∧ w'.cell? ⟨gb1197, 3, none⟩ = some (.int .i64 a0_3) ∧ w'.cell? ⟨gb1198, 0, none⟩ = some (.int .i64 a1_0) ∧ w'.cell? ⟨gb1198, 1, none⟩ = some (.int .i64 a1_1) ∧ w'.cell? ⟨gb1198, 2, none⟩ = some (.int .i64 a1_2) ∧ w'.cell? ⟨gb1198, 3, none⟩ = some (.int .i64 a1_3)) ∧ (w'.heap[gb1197]? = some (.cells #[.int .i64 a0_0, .int .i64 a0_1, .int .i64 a0_2, .int .i64 a0_3] 29 (0, 0))) ∧ (w'.heap[gb1198]? = some (.cells #[.int .i64 a1_0, .int .i64 a1_1, .int .i64 a1_2, .int .i64 a1_3] 29 (0, 0))) ∧ (w'.heap[gb1199]? = some (.cells #[.int .i64 0, .int .i64 0, .int .i64 0, .int .i64 0] 29 (0, 0))) ∧ (w'.heap[gb1206]? = some (.cells #[.int .i64 t1203, .int .i64 t1204] 27 (0, 0))) ∧ (w'.heap[s_]? = some (.cells #[.int .i64 0, .int .i64 0] 27 (0, 0))) ∧ (w.heap.size ≤ s_) ∧ (w.heap.size ≤ s_) ∧ (gb1197 ≠ s_) ∧ (s_ ≠ gb1197) ∧ (gb1198 ≠ s_) ∧ (s_ ≠ gb1198) ∧ (gb1199 ≠ s_) ∧ (s_ ≠ gb1199) ∧ (gb1206 ≠ s_) ∧ (s_ ≠ gb1206) ∧ (Below w.heap.size w w')) ?_ ?_
      rotate_left
      ·
       intro hCont
       refine two_ (i := 2) (j := 12) (Ni := some 33) (Nj := some 8) #[true, true, true, true, true, false, false, true, false, false, false, false, false, false, false] #[true, true, false, true, true, false, false, true, false, false, false, false, true, false, false] rfl rfl rfl rfl (two_of HT_.out (by kernel_rfl)) (by decide) (by decide) (fun K hK => ?_) (fun K hK => ?_)
       ·
        refine goes_ Try.func61 (by kernel_rfl) rfl #[.agg #[.int .i64 a0_2, .int .i64 a0_3]] (by rfl) rfl rfl zq6 ?_
        with_reducible refine (impl_minus.calls a0_2 a0_3 t1207 t1208 _ A37.out).mono ?_
        rintro e w56 ⟨rfl, hb⟩
        refine ⟨_, rfl, ?_⟩
        replace BK1197 := Aside0.mk (zbb BK1197 hb); replace BK1198 := Aside0.mk (zbb BK1198 hb); replace BK1199 := Aside0.mk (zbb BK1199 hb); replace BK1206 := Aside0.mk (zbb BK1206 hb); replace HB := Aside0.mk (below_step (zb1 HB) hb)
        (try clear hb)
        (try clear hb2)
        (try clear hk)
        (try clear hi)
        refine hK.out _ _ ⟨zc BK1197 0, zc BK1197 1, zc BK1197 2, zc BK1197 3, zc BK1198 0, zc BK1198 1, zc BK1198 2, zc BK1198 3⟩ (fun hHeld => ?_)
        clear hK K
        refine norm_ (a' := ?_) ?_ ?_
        rotate_left
        ·
         show Act.put _ (some 33) _ = _
         simp only [Act.put, List.setIfInBounds_toArray, List.set_cons_zero, List.set_cons_succ, i64_w, i32_w]; rfl
        refine two_ (i := 5) (j := 12) (Ni := some 36) (Nj := some 8) #[true, true, true, true, true, true, false, true, false, false, false, false, false, false, false] #[true, true, true, true, true, false, false, true, false, false, false, false, true, false, false] rfl rfl rfl rfl (two_of HT_.out (by kernel_rfl)) (by decide) (by decide) (fun K hK => ?_) (fun K hK => ?_)
        ·
         refine goes_ Try.func61 (by kernel_rfl) rfl #[.agg #[.int .i64 a0_0, .int .i64 a0_1]] (by rfl) rfl rfl zq6 ?_
         with_reducible refine (impl_minus.calls a0_0 a0_1 t1209 t1210 _ A38.out).mono ?_
         rintro e w57 ⟨rfl, hb⟩
         refine ⟨_, rfl, ?_⟩
         replace BK1197 := Aside0.mk (zbb BK1197 hb); replace BK1198 := Aside0.mk (zbb BK1198 hb); replace BK1199 := Aside0.mk (zbb BK1199 hb); replace BK1206 := Aside0.mk (zbb BK1206 hb); replace HB := Aside0.mk (below_step (zb1 HB) hb)
         (try clear hb)
         (try clear hb2)
         (try clear hk)
         (try clear hi)
         refine hK.out _ _ ⟨zc BK1197 0, zc BK1197 1, zc BK1197 2, zc BK1197 3, zc BK1198 0, zc BK1198 1, zc BK1198 2, zc BK1198 3⟩ (fun hHeld => ?_)
         clear hK K
         refine norm_ (a' := ?_) ?_ ?_
         rotate_left
         ·
          show Act.put _ (some 36) _ = _
          simp only [Act.put, List.setIfInBounds_toArray, List.set_cons_zero, List.set_cons_succ, i64_w, i32_w]; rfl
         refine zp (i := 6) (N := some 37) #[true, true, true, true, true, true, true, true, false, false, false, false, false, false, false] (any_of HT_.out (by kernel_rfl)) ?_
         refine two_ (i := 8) (j := 12) (Ni := some 39) (Nj := some 8) #[true, true, true, true, true, true, true, true, true, false, false, false, false, false, false] #[true, true, true, true, true, true, true, true, false, false, false, false, true, false, false] rfl rfl rfl rfl (two_of HT_.out (by kernel_rfl)) (by decide) (by decide) (fun K hK => ?_) (fun K hK => ?_)
         ·
          refine goes_ Try.func74 (by kernel_rfl) rfl #[.agg #[.int .i64 t1207, .int .i64 t1208, .int .i64 t1209, .int .i64 t1210], .agg #[.int .i64 a1_0, .int .i64 a1_1, .int .i64 a1_2, .int .i64 a1_3]] (by rfl) rfl rfl zq6 ?_
          with_reducible refine (impl_leastQuotient.calls kj2 t1207 t1208 t1209 t1210 a1_0 a1_1 a1_2 a1_3 t1211 t1212 true _ A39.out).mono ?_
          rintro e w58 ⟨rfl, hb⟩
          refine ⟨_, rfl, ?_⟩
          replace BK1197 := Aside0.mk (zbb BK1197 hb); replace BK1198 := Aside0.mk (zbb BK1198 hb); replace BK1199 := Aside0.mk (zbb BK1199 hb); replace BK1206 := Aside0.mk (zbb BK1206 hb); replace HB := Aside0.mk (below_step (zb1 HB) hb)
          (try clear hb)
          (try clear hb2)
          (try clear hk)
          (try clear hi)
          refine hK.out _ _ ⟨zc BK1197 0, zc BK1197 1, zc BK1197 2, zc BK1197 3, zc BK1198 0, zc BK1198 1, zc BK1198 2, zc BK1198 3⟩ (fun hHeld => ?_)
          clear hK K
          refine norm_ (a' := ?_) ?_ ?_
          rotate_left
          ·
           show Act.put _ (some 39) _ = _
           simp only [Act.put, List.setIfInBounds_toArray, List.set_cons_zero, List.set_cons_succ, i64_w, i32_w]; rfl
          refine zp (i := 9) (N := some 30) #[true, true, true, true, true, true, true, true, true, true, false, false, false, false, false] (any_of HT_.out (by kernel_rfl)) ?_
          refine zp (i := 10) (N := some 40) #[true, true, true, true, true, true, true, true, true, true, true, false, false, false, false] (any_of HT_.out (by kernel_rfl)) ?_
          refine zp (i := 11) (N := some 41) #[true, true, true, true, true, true, true, true, true, true, true, true, false, false, false] (any_of HT_.out (by kernel_rfl)) ?_
          refine one_ (i := 12) (N := some 8) #[true, true, true, true, true, true, true, true, true, true, true, true, true, false, false] rfl rfl (one_of HT_.out (by kernel_rfl)) (by decide) (fun K hK => ?_)
          refine box_step ?hg (N := 8) ?hd (cs := #[.int .i64 0, .int .i64 0]) (t := 27) ?hr ?_; (case hd => rfl); (case hg => rfl); (case hr => first | (go_simp; done) | (go_simp; rfl))
          intro gb1214 hg w59 hbox hb
          have n0_ := Aside0.mk (zbb BK1197 hb)
          have n1_ := Aside0.mk (zbb BK1198 hb)
          have n2_ := Aside0.mk (zbb BK1199 hb)
          have n3_ := Aside0.mk (zbb BK1206 hb)
          have n4_ := Aside0.mk (below_step (zb1 HB) hb)
          have BK1214 := Aside0.mk (hbox)
          have GW1214 := Aside0.mk (zge (zb1 HB) hg)
          have GE1214 := Aside0.mk (zge (zb1 HB) hg)
          have NB1197_1214 := Aside0.mk (zlt BK1197 hg)
          have NB1214_1197 := Aside0.mk (zgt BK1197 hg)
          have NB1198_1214 := Aside0.mk (zlt BK1198 hg)
          have NB1214_1198 := Aside0.mk (zgt BK1198 hg)
          have NB1199_1214 := Aside0.mk (zlt BK1199 hg)
          have NB1214_1199 := Aside0.mk (zgt BK1199 hg)
          have NB1206_1214 := Aside0.mk (zlt BK1206 hg)
          have NB1214_1206 := Aside0.mk (zgt BK1206 hg)
          clear BK1197 BK1198 BK1199 BK1206 HB
          have BK1197 := n0_; have BK1198 := n1_; have BK1199 := n2_; have BK1206 := n3_; have HB := n4_
          clear n0_ n1_ n2_ n3_ n4_ hb hbox hg
          refine hK.out _ _ ⟨zc BK1197 0, zc BK1197 1, zc BK1197 2, zc BK1197 3, zc BK1198 0, zc BK1198 1, zc BK1198 2, zc BK1198 3⟩ (fun hHeld => ?_)
          clear hK K
          refine norm_ (a' := ?_) ?_ ?_
          rotate_left
          ·
           show Act.put _ (some 8) _ = _
           simp only [Act.put, List.setIfInBounds_toArray, List.set_cons_zero, List.set_cons_succ, i64_w, i32_w]; rfl
          exact norm_ (by simp only [putAll, Act.put, List.setIfInBounds_toArray, List.set_cons_zero, List.set_cons_succ]) (hCont (gb1214) _ ⟨hHeld, (zq1 BK1197), (zq1 BK1198), (zq1 BK1199), (zq1 BK1206), (zq1 BK1214), GW1214.out, GE1214.out, NB1197_1214.out, NB1214_1197.out, NB1198_1214.out, NB1214_1198.out, NB1199_1214.out, NB1214_1199.out, NB1206_1214.out, NB1214_1206.out, (zb1 HB)⟩)
         ·
          refine box_step ?hg (N := 8) ?hd (cs := #[.int .i64 0, .int .i64 0]) (t := 27) ?hr ?_; (case hd => rfl); (case hg => rfl); (case hr => first | (go_simp; done) | (go_simp; rfl))
          intro gb1214 hg w58 hbox hb
          have n0_ := Aside0.mk (zbb BK1197 hb)
          have n1_ := Aside0.mk (zbb BK1198 hb)
          have n2_ := Aside0.mk (zbb BK1199 hb)
          have n3_ := Aside0.mk (zbb BK1206 hb)
          have n4_ := Aside0.mk (below_step (zb1 HB) hb)
          have BK1214 := Aside0.mk (hbox)
          have GW1214 := Aside0.mk (zge (zb1 HB) hg)
          have GE1214 := Aside0.mk (zge (zb1 HB) hg)
          have NB1197_1214 := Aside0.mk (zlt BK1197 hg)
          have NB1214_1197 := Aside0.mk (zgt BK1197 hg)
          have NB1198_1214 := Aside0.mk (zlt BK1198 hg)
          have NB1214_1198 := Aside0.mk (zgt BK1198 hg)
          have NB1199_1214 := Aside0.mk (zlt BK1199 hg)
          have NB1214_1199 := Aside0.mk (zgt BK1199 hg)
          have NB1206_1214 := Aside0.mk (zlt BK1206 hg)
          have NB1214_1206 := Aside0.mk (zgt BK1206 hg)
          clear BK1197 BK1198 BK1199 BK1206 HB
          have BK1197 := n0_; have BK1198 := n1_; have BK1199 := n2_; have BK1206 := n3_; have HB := n4_
          clear n0_ n1_ n2_ n3_ n4_ hb hbox hg
          refine hK.out _ _ ⟨zc BK1197 0, zc BK1197 1, zc BK1197 2, zc BK1197 3, zc BK1198 0, zc BK1198 1, zc BK1198 2, zc BK1198 3⟩ (fun hHeld => ?_)
          clear hK K
          refine norm_ (a' := ?_) ?_ ?_
          rotate_left
          ·
           show Act.put _ (some 8) _ = _
           simp only [Act.put, List.setIfInBounds_toArray, List.set_cons_zero, List.set_cons_succ, i64_w, i32_w]; rfl
          refine one_ (i := 8) (N := some 39) #[true, true, true, true, true, true, true, true, true, false, false, false, true, false, false] rfl rfl (one_of HT_.out (by kernel_rfl)) (by decide) (fun K hK => ?_)
          refine goes_ Try.func74 (by kernel_rfl) rfl #[.agg #[.int .i64 t1207, .int .i64 t1208, .int .i64 t1209, .int .i64 t1210], .agg #[.int .i64 a1_0, .int .i64 a1_1, .int .i64 a1_2, .int .i64 a1_3]] (by rfl) rfl rfl zq6 ?_
          with_reducible refine (impl_leastQuotient.calls kj2 t1207 t1208 t1209 t1210 a1_0 a1_1 a1_2 a1_3 t1211 t1212 true _ A39.out).mono ?_
          rintro e w59 ⟨rfl, hb⟩
          refine ⟨_, rfl, ?_⟩
          replace BK1197 := Aside0.mk (zbb BK1197 hb); replace BK1198 := Aside0.mk (zbb BK1198 hb); replace BK1199 := Aside0.mk (zbb BK1199 hb); replace BK1206 := Aside0.mk (zbb BK1206 hb); replace BK1214 := Aside0.mk (zbb BK1214 hb); replace HB := Aside0.mk (below_step (zb1 HB) hb)
          (try clear hb)
          (try clear hb2)
          (try clear hk)
          (try clear hi)
          refine hK.out _ _ ⟨zc BK1197 0, zc BK1197 1, zc BK1197 2, zc BK1197 3, zc BK1198 0, zc BK1198 1, zc BK1198 2, zc BK1198 3⟩ (fun hHeld => ?_)
          clear hK K
          refine norm_ (a' := ?_) ?_ ?_
          rotate_left
          ·
           show Act.put _ (some 39) _ = _
           simp only [Act.put, List.setIfInBounds_toArray, List.set_cons_zero, List.set_cons_succ, i64_w, i32_w]; rfl
          refine zp (i := 9) (N := some 30) #[true, true, true, true, true, true, true, true, true, true, false, false, true, false, false] (any_of HT_.out (by kernel_rfl)) ?_
          refine zp (i := 10) (N := some 40) #[true, true, true, true, true, true, true, true, true, true, true, false, true, false, false] (any_of HT_.out (by kernel_rfl)) ?_
          refine zp (i := 11) (N := some 41) #[true, true, true, true, true, true, true, true, true, true, true, true, true, false, false] (any_of HT_.out (by kernel_rfl)) ?_
          exact norm_ (by simp only [putAll, Act.put, List.setIfInBounds_toArray, List.set_cons_zero, List.set_cons_succ]) (hCont (gb1214) _ ⟨hHeld, (zq1 BK1197), (zq1 BK1198), (zq1 BK1199), (zq1 BK1206), (zq1 BK1214), GW1214.out, GE1214.out, NB1197_1214.out, NB1214_1197.out, NB1198_1214.out, NB1214_1198.out, NB1199_1214.out, NB1214_1199.out, NB1206_1214.out, NB1214_1206.out, (zb1 HB)⟩)
        ·
         refine box_step ?hg (N := 8) ?hd (cs := #[.int .i64 0, .int .i64 0]) (t := 27) ?hr ?_; (case hd => rfl); (case hg => rfl); (case hr => first | (go_simp; done) | (go_simp; rfl))
         intro gb1214 hg w57 hbox hb
         have n0_ := Aside0.mk (zbb BK1197 hb)
         have n1_ := Aside0.mk (zbb BK1198 hb)
         have n2_ := Aside0.mk (zbb BK1199 hb)
         have n3_ := Aside0.mk (zbb BK1206 hb)
         have n4_ := Aside0.mk (below_step (zb1 HB) hb)
         have BK1214 := Aside0.mk (hbox)
         have GW1214 := Aside0.mk (zge (zb1 HB) hg)
         have GE1214 := Aside0.mk (zge (zb1 HB) hg)
         have NB1197_1214 := Aside0.mk (zlt BK1197 hg)
         have NB1214_1197 := Aside0.mk (zgt BK1197 hg)
         have NB1198_1214 := Aside0.mk (zlt BK1198 hg)
         have NB1214_1198 := Aside0.mk (zgt BK1198 hg)
         have NB1199_1214 := Aside0.mk (zlt BK1199 hg)
         have NB1214_1199 := Aside0.mk (zgt BK1199 hg)
         have NB1206_1214 := Aside0.mk (zlt BK1206 hg)
         have NB1214_1206 := Aside0.mk (zgt BK1206 hg)
         clear BK1197 BK1198 BK1199 BK1206 HB
         have BK1197 := n0_; have BK1198 := n1_; have BK1199 := n2_; have BK1206 := n3_; have HB := n4_
         clear n0_ n1_ n2_ n3_ n4_ hb hbox hg
         refine hK.out _ _ ⟨zc BK1197 0, zc BK1197 1, zc BK1197 2, zc BK1197 3, zc BK1198 0, zc BK1198 1, zc BK1198 2, zc BK1198 3⟩ (fun hHeld => ?_)
         clear hK K
         refine norm_ (a' := ?_) ?_ ?_
         rotate_left
         ·
          show Act.put _ (some 8) _ = _
          simp only [Act.put, List.setIfInBounds_toArray, List.set_cons_zero, List.set_cons_succ, i64_w, i32_w]; rfl
         refine one_ (i := 5) (N := some 36) #[true, true, true, true, true, true, false, true, false, false, false, false, true, false, false] rfl rfl (one_of HT_.out (by kernel_rfl)) (by decide) (fun K hK => ?_)
         refine goes_ Try.func61 (by kernel_rfl) rfl #[.agg #[.int .i64 a0_0, .int .i64 a0_1]] (by rfl) rfl rfl zq6 ?_
         with_reducible refine (impl_minus.calls a0_0 a0_1 t1209 t1210 _ A38.out).mono ?_
         rintro e w58 ⟨rfl, hb⟩
         refine ⟨_, rfl, ?_⟩
         replace BK1197 := Aside0.mk (zbb BK1197 hb); replace BK1198 := Aside0.mk (zbb BK1198 hb); replace BK1199 := Aside0.mk (zbb BK1199 hb); replace BK1206 := Aside0.mk (zbb BK1206 hb); replace BK1214 := Aside0.mk (zbb BK1214 hb); replace HB := Aside0.mk (below_step (zb1 HB) hb)
         (try clear hb)
         (try clear hb2)
         (try clear hk)
         (try clear hi)
         refine hK.out _ _ ⟨zc BK1197 0, zc BK1197 1, zc BK1197 2, zc BK1197 3, zc BK1198 0, zc BK1198 1, zc BK1198 2, zc BK1198 3⟩ (fun hHeld => ?_)
         clear hK K
         refine norm_ (a' := ?_) ?_ ?_
         rotate_left
         ·
          show Act.put _ (some 36) _ = _
          simp only [Act.put, List.setIfInBounds_toArray, List.set_cons_zero, List.set_cons_succ, i64_w, i32_w]; rfl
         refine zp (i := 6) (N := some 37) #[true, true, true, true, true, true, true, true, false, false, false, false, true, false, false] (any_of HT_.out (by kernel_rfl)) ?_
         refine one_ (i := 8) (N := some 39) #[true, true, true, true, true, true, true, true, true, false, false, false, true, false, false] rfl rfl (one_of HT_.out (by kernel_rfl)) (by decide) (fun K hK => ?_)
         refine goes_ Try.func74 (by kernel_rfl) rfl #[.agg #[.int .i64 t1207, .int .i64 t1208, .int .i64 t1209, .int .i64 t1210], .agg #[.int .i64 a1_0, .int .i64 a1_1, .int .i64 a1_2, .int .i64 a1_3]] (by rfl) rfl rfl zq6 ?_
         with_reducible refine (impl_leastQuotient.calls kj2 t1207 t1208 t1209 t1210 a1_0 a1_1 a1_2 a1_3 t1211 t1212 true _ A39.out).mono ?_
         rintro e w59 ⟨rfl, hb⟩
         refine ⟨_, rfl, ?_⟩
         replace BK1197 := Aside0.mk (zbb BK1197 hb); replace BK1198 := Aside0.mk (zbb BK1198 hb); replace BK1199 := Aside0.mk (zbb BK1199 hb); replace BK1206 := Aside0.mk (zbb BK1206 hb); replace BK1214 := Aside0.mk (zbb BK1214 hb); replace HB := Aside0.mk (below_step (zb1 HB) hb)
         (try clear hb)
         (try clear hb2)
         (try clear hk)
         (try clear hi)
         refine hK.out _ _ ⟨zc BK1197 0, zc BK1197 1, zc BK1197 2, zc BK1197 3, zc BK1198 0, zc BK1198 1, zc BK1198 2, zc BK1198 3⟩ (fun hHeld => ?_)
         clear hK K
         refine norm_ (a' := ?_) ?_ ?_
         rotate_left
         ·
          show Act.put _ (some 39) _ = _
          simp only [Act.put, List.setIfInBounds_toArray, List.set_cons_zero, List.set_cons_succ, i64_w, i32_w]; rfl
         refine zp (i := 9) (N := some 30) #[true, true, true, true, true, true, true, true, true, true, false, false, true, false, false] (any_of HT_.out (by kernel_rfl)) ?_
         refine zp (i := 10) (N := some 40) #[true, true, true, true, true, true, true, true, true, true, true, false, true, false, false] (any_of HT_.out (by kernel_rfl)) ?_
         refine zp (i := 11) (N := some 41) #[true, true, true, true, true, true, true, true, true, true, true, true, true, false, false] (any_of HT_.out (by kernel_rfl)) ?_
         exact norm_ (by simp only [putAll, Act.put, List.setIfInBounds_toArray, List.set_cons_zero, List.set_cons_succ]) (hCont (gb1214) _ ⟨hHeld, (zq1 BK1197), (zq1 BK1198), (zq1 BK1199), (zq1 BK1206), (zq1 BK1214), GW1214.out, GE1214.out, NB1197_1214.out, NB1214_1197.out, NB1198_1214.out, NB1214_1198.out, NB1199_1214.out, NB1214_1199.out, NB1206_1214.out, NB1214_1206.out, (zb1 HB)⟩)
       ·
        refine box_step ?hg (N := 8) ?hd (cs := #[.int .i64 0, .int .i64 0]) (t := 27) ?hr ?_; (case hd => rfl); (case hg => rfl); (case hr => first | (go_simp; done) | (go_simp; rfl))
        intro gb1214 hg w56 hbox hb
        have n0_ := Aside0.mk (zbb BK1197 hb)
        have n1_ := Aside0.mk (zbb BK1198 hb)
        have n2_ := Aside0.mk (zbb BK1199 hb)
        have n3_ := Aside0.mk (zbb BK1206 hb)
        have n4_ := Aside0.mk (below_step (zb1 HB) hb)
        have BK1214 := Aside0.mk (hbox)
        have GW1214 := Aside0.mk (zge (zb1 HB) hg)
        have GE1214 := Aside0.mk (zge (zb1 HB) hg)
        have NB1197_1214 := Aside0.mk (zlt BK1197 hg)
        have NB1214_1197 := Aside0.mk (zgt BK1197 hg)
        have NB1198_1214 := Aside0.mk (zlt BK1198 hg)
        have NB1214_1198 := Aside0.mk (zgt BK1198 hg)
        have NB1199_1214 := Aside0.mk (zlt BK1199 hg)
        have NB1214_1199 := Aside0.mk (zgt BK1199 hg)
        have NB1206_1214 := Aside0.mk (zlt BK1206 hg)
        have NB1214_1206 := Aside0.mk (zgt BK1206 hg)
        clear BK1197 BK1198 BK1199 BK1206 HB
        have BK1197 := n0_; have BK1198 := n1_; have BK1199 := n2_; have BK1206 := n3_; have HB := n4_
        clear n0_ n1_ n2_ n3_ n4_ hb hbox hg
        refine hK.out _ _ ⟨zc BK1197 0, zc BK1197 1, zc BK1197 2, zc BK1197 3, zc BK1198 0, zc BK1198 1, zc BK1198 2, zc BK1198 3⟩ (fun hHeld => ?_)
        clear hK K
        refine norm_ (a' := ?_) ?_ ?_
        rotate_left
        ·
         show Act.put _ (some 8) _ = _
         simp only [Act.put, List.setIfInBounds_toArray, List.set_cons_zero, List.set_cons_succ, i64_w, i32_w]; rfl
        refine one_ (i := 2) (N := some 33) #[true, true, true, true, true, false, false, true, false, false, false, false, true, false, false] rfl rfl (one_of HT_.out (by kernel_rfl)) (by decide) (fun K hK => ?_)
        refine goes_ Try.func61 (by kernel_rfl) rfl #[.agg #[.int .i64 a0_2, .int .i64 a0_3]] (by rfl) rfl rfl zq6 ?_
        with_reducible refine (impl_minus.calls a0_2 a0_3 t1207 t1208 _ A37.out).mono ?_
        rintro e w57 ⟨rfl, hb⟩
        refine ⟨_, rfl, ?_⟩
        replace BK1197 := Aside0.mk (zbb BK1197 hb); replace BK1198 := Aside0.mk (zbb BK1198 hb); replace BK1199 := Aside0.mk (zbb BK1199 hb); replace BK1206 := Aside0.mk (zbb BK1206 hb); replace BK1214 := Aside0.mk (zbb BK1214 hb); replace HB := Aside0.mk (below_step (zb1 HB) hb)
        (try clear hb)
        (try clear hb2)
        (try clear hk)
        (try clear hi)
        refine hK.out _ _ ⟨zc BK1197 0, zc BK1197 1, zc BK1197 2, zc BK1197 3, zc BK1198 0, zc BK1198 1, zc BK1198 2, zc BK1198 3⟩ (fun hHeld => ?_)
        clear hK K
        refine norm_ (a' := ?_) ?_ ?_
        rotate_left
        ·
         show Act.put _ (some 33) _ = _
         simp only [Act.put, List.setIfInBounds_toArray, List.set_cons_zero, List.set_cons_succ, i64_w, i32_w]; rfl
        refine one_ (i := 5) (N := some 36) #[true, true, true, true, true, true, false, true, false, false, false, false, true, false, false] rfl rfl (one_of HT_.out (by kernel_rfl)) (by decide) (fun K hK => ?_)
        refine goes_ Try.func61 (by kernel_rfl) rfl #[.agg #[.int .i64 a0_0, .int .i64 a0_1]] (by rfl) rfl rfl zq6 ?_
        with_reducible refine (impl_minus.calls a0_0 a0_1 t1209 t1210 _ A38.out).mono ?_
        rintro e w58 ⟨rfl, hb⟩
        refine ⟨_, rfl, ?_⟩
        replace BK1197 := Aside0.mk (zbb BK1197 hb); replace BK1198 := Aside0.mk (zbb BK1198 hb); replace BK1199 := Aside0.mk (zbb BK1199 hb); replace BK1206 := Aside0.mk (zbb BK1206 hb); replace BK1214 := Aside0.mk (zbb BK1214 hb); replace HB := Aside0.mk (below_step (zb1 HB) hb)
        (try clear hb)
        (try clear hb2)
        (try clear hk)
        (try clear hi)
        refine hK.out _ _ ⟨zc BK1197 0, zc BK1197 1, zc BK1197 2, zc BK1197 3, zc BK1198 0, zc BK1198 1, zc BK1198 2, zc BK1198 3⟩ (fun hHeld => ?_)
        clear hK K
        refine norm_ (a' := ?_) ?_ ?_
        rotate_left
        ·
         show Act.put _ (some 36) _ = _
         simp only [Act.put, List.setIfInBounds_toArray, List.set_cons_zero, List.set_cons_succ, i64_w, i32_w]; rfl
        refine zp (i := 6) (N := some 37) #[true, true, true, true, true, true, true, true, false, false, false, false, true, false, false] (any_of HT_.out (by kernel_rfl)) ?_
        refine one_ (i := 8) (N := some 39) #[true, true, true, true, true, true, true, true, true, false, false, false, true, false, false] rfl rfl (one_of HT_.out (by kernel_rfl)) (by decide) (fun K hK => ?_)
        refine goes_ Try.func74 (by kernel_rfl) rfl #[.agg #[.int .i64 t1207, .int .i64 t1208, .int .i64 t1209, .int .i64 t1210], .agg #[.int .i64 a1_0, .int .i64 a1_1, .int .i64 a1_2, .int .i64 a1_3]] (by rfl) rfl rfl zq6 ?_
        with_reducible refine (impl_leastQuotient.calls kj2 t1207 t1208 t1209 t1210 a1_0 a1_1 a1_2 a1_3 t1211 t1212 true _ A39.out).mono ?_
        rintro e w59 ⟨rfl, hb⟩
        refine ⟨_, rfl, ?_⟩
        replace BK1197 := Aside0.mk (zbb BK1197 hb); replace BK1198 := Aside0.mk (zbb BK1198 hb); replace BK1199 := Aside0.mk (zbb BK1199 hb); replace BK1206 := Aside0.mk (zbb BK1206 hb); replace BK1214 := Aside0.mk (zbb BK1214 hb); replace HB := Aside0.mk (below_step (zb1 HB) hb)
        (try clear hb)
        (try clear hb2)
        (try clear hk)
        (try clear hi)
        refine hK.out _ _ ⟨zc BK1197 0, zc BK1197 1, zc BK1197 2, zc BK1197 3, zc BK1198 0, zc BK1198 1, zc BK1198 2, zc BK1198 3⟩ (fun hHeld => ?_)
        clear hK K
        refine norm_ (a' := ?_) ?_ ?_
        rotate_left
        ·
         show Act.put _ (some 39) _ = _
         simp only [Act.put, List.setIfInBounds_toArray, List.set_cons_zero, List.set_cons_succ, i64_w, i32_w]; rfl
        refine zp (i := 9) (N := some 30) #[true, true, true, true, true, true, true, true, true, true, false, false, true, false, false] (any_of HT_.out (by kernel_rfl)) ?_
        refine zp (i := 10) (N := some 40) #[true, true, true, true, true, true, true, true, true, true, true, false, true, false, false] (any_of HT_.out (by kernel_rfl)) ?_
        refine zp (i := 11) (N := some 41) #[true, true, true, true, true, true, true, true, true, true, true, true, true, false, false] (any_of HT_.out (by kernel_rfl)) ?_
        exact norm_ (by simp only [putAll, Act.put, List.setIfInBounds_toArray, List.set_cons_zero, List.set_cons_succ]) (hCont (gb1214) _ ⟨hHeld, (zq1 BK1197), (zq1 BK1198), (zq1 BK1199), (zq1 BK1206), (zq1 BK1214), GW1214.out, GE1214.out, NB1197_1214.out, NB1214_1197.out, NB1198_1214.out, NB1214_1198.out, NB1199_1214.out, NB1214_1199.out, NB1206_1214.out, NB1214_1206.out, (zb1 HB)⟩)
      rintro gb1214 w60 ⟨hS_, h0_, h1_, h2_, h3_, h4_, h5_, h6_, h7_, h8_, h9_, h10_, h11_, h12_, h13_, h14_, h15_⟩
      have BK1214 : Aside0 (w60.heap[gb1214]? = some (.cells #[.int .i64 0, .int .i64 0] 27 (0, 0))) := ⟨h4_⟩
      have GW1214 : Aside0 (w.heap.size ≤ gb1214) := ⟨h5_⟩
      have GE1214 : Aside0 (w.heap.size ≤ gb1214) := ⟨h6_⟩
      have NB1197_1214 : Aside0 (gb1197 ≠ gb1214) := ⟨h7_⟩
      have NB1214_1197 : Aside0 (gb1214 ≠ gb1197) := ⟨h8_⟩
      have NB1198_1214 : Aside0 (gb1198 ≠ gb1214) := ⟨h9_⟩
      have NB1214_1198 : Aside0 (gb1214 ≠ gb1198) := ⟨h10_⟩
      have NB1199_1214 : Aside0 (gb1199 ≠ gb1214) := ⟨h11_⟩
      have NB1214_1199 : Aside0 (gb1214 ≠ gb1199) := ⟨h12_⟩
      have NB1206_1214 : Aside0 (gb1206 ≠ gb1214) := ⟨h13_⟩
      have NB1214_1206 : Aside0 (gb1214 ≠ gb1206) := ⟨h14_⟩
      replace BK1197 : Aside0 (w60.heap[gb1197]? = some (.cells #[.int .i64 a0_0, .int .i64 a0_1, .int .i64 a0_2, .int .i64 a0_3] 29 (0, 0))) := ⟨h0_⟩; replace BK1198 : Aside0 (w60.heap[gb1198]? = some (.cells #[.int .i64 a1_0, .int .i64 a1_1, .int .i64 a1_2, .int .i64 a1_3] 29 (0, 0))) := ⟨h1_⟩; replace BK1199 : Aside0 (w60.heap[gb1199]? = some (.cells #[.int .i64 0, .int .i64 0, .int .i64 0, .int .i64 0] 29 (0, 0))) := ⟨h2_⟩; replace BK1206 : Aside0 (w60.heap[gb1206]? = some (.cells #[.int .i64 t1203, .int .i64 t1204] 27 (0, 0))) := ⟨h3_⟩; replace HB : Aside0 (Below w.heap.size w w60) := ⟨h15_⟩
      clear h0_ h10_ h11_ h12_ h13_ h14_ h15_ h1_ h2_ h3_ h4_ h5_ h6_ h7_ h8_ h9_
      have hHeld : w60.cell? ⟨gb1197, 0, none⟩ = some (.int .i64 a0_0) ∧ w60.cell? ⟨gb1197, 1, none⟩ = some (.int .i64 a0_1) ∧ w60.cell? ⟨gb1197, 2, none⟩ = some (.int .i64 a0_2) ∧ w60.cell? ⟨gb1197, 3, none⟩ = some (.int .i64 a0_3) ∧ w60.cell? ⟨gb1198, 0, none⟩ = some (.int .i64 a1_0) ∧ w60.cell? ⟨gb1198, 1, none⟩ = some (.int .i64 a1_1) ∧ w60.cell? ⟨gb1198, 2, none⟩ = some (.int .i64 a1_2) ∧ w60.cell? ⟨gb1198, 3, none⟩ = some (.int .i64 a1_3) := hS_
      refine norm_ (a' := ?_) ?_ ?_
      rotate_left
      ·
       simp only [putAll, Act.put, List.setIfInBounds_toArray, List.set_cons_zero, List.set_cons_succ]
       rfl
      refine one_ (i := 13) (N := none) #[true, true, true, true, true, true, true, true, true, true, true, true, true, true, false] rfl rfl (one_of HT_.out (by kernel_rfl)) (by decide) (fun K hK => ?_)
      have hs61 : w60.cell? ⟨gb1214, 0, none⟩ = some (.int .i64 0) := zc BK1214 0
      have hfs61 := blk_frozen BK1214.out 0
      have hns61_0 := NB1197_1214.out
      have hns61_1 := NB1198_1214.out
      have hns61_2 := NB1199_1214.out
      have hns61_3 := NB1206_1214.out
      have hms61_0 := NB1214_1197.out
      have hms61_1 := NB1214_1198.out
      have hms61_2 := NB1214_1199.out
      have hms61_3 := NB1214_1206.out
      have hs62 : w60.cell? ⟨gb1214, 1, none⟩ = some (.int .i64 0) := zc BK1214 1
      have hfs62 := blk_frozen BK1214.out 1
      have hns62_0 := NB1197_1214.out
      have hns62_1 := NB1198_1214.out
      have hns62_2 := NB1199_1214.out
      have hns62_3 := NB1206_1214.out
      have hms62_0 := NB1214_1197.out
      have hms62_1 := NB1214_1198.out
      have hms62_2 := NB1214_1199.out
      have hms62_3 := NB1214_1206.out
      refine skip_ (w1 := ?_) (by rfl) rfl ?_ ?_
      rotate_left
      ·
       go_simp
       rfl
      refine hK.out _ _ ⟨((cell_far (p := ⟨gb1214, _, none⟩) NB1197_1214.out _).trans (((cell_far (p := ⟨gb1214, _, none⟩) NB1197_1214.out _).trans (hHeld.1)))), ((cell_far (p := ⟨gb1214, _, none⟩) NB1197_1214.out _).trans (((cell_far (p := ⟨gb1214, _, none⟩) NB1197_1214.out _).trans (hHeld.2.1)))), ((cell_far (p := ⟨gb1214, _, none⟩) NB1197_1214.out _).trans (((cell_far (p := ⟨gb1214, _, none⟩) NB1197_1214.out _).trans (hHeld.2.2.1)))), ((cell_far (p := ⟨gb1214, _, none⟩) NB1197_1214.out _).trans (((cell_far (p := ⟨gb1214, _, none⟩) NB1197_1214.out _).trans (hHeld.2.2.2.1)))), ((cell_far (p := ⟨gb1214, _, none⟩) NB1198_1214.out _).trans (((cell_far (p := ⟨gb1214, _, none⟩) NB1198_1214.out _).trans (hHeld.2.2.2.2.1)))), ((cell_far (p := ⟨gb1214, _, none⟩) NB1198_1214.out _).trans (((cell_far (p := ⟨gb1214, _, none⟩) NB1198_1214.out _).trans (hHeld.2.2.2.2.2.1)))), ((cell_far (p := ⟨gb1214, _, none⟩) NB1198_1214.out _).trans (((cell_far (p := ⟨gb1214, _, none⟩) NB1198_1214.out _).trans (hHeld.2.2.2.2.2.2.1)))), ((cell_far (p := ⟨gb1214, _, none⟩) NB1198_1214.out _).trans (((cell_far (p := ⟨gb1214, _, none⟩) NB1198_1214.out _).trans (hHeld.2.2.2.2.2.2.2))))⟩ (fun hHeld => ?_)
      clear hK K
      refine zp (i := 14) (N := some 9) #[true, true, true, true, true, true, true, true, true, true, true, true, true, true, true] (any_of HT_.out (by kernel_rfl)) ?_
      refine done_ (done_of HT_.out (by kernel_rfl)) ?_
      try go_wp2
      have n0_ : Aside0 (((w60.setCell ⟨gb1214, 0, none⟩ (.int .i64 t1211)).setCell ⟨gb1214, 1, none⟩ (.int .i64 t1212)).heap[gb1197]? = some (.cells #[.int .i64 a0_0, .int .i64 a0_1, .int .i64 a0_2, .int .i64 a0_3] 29 (0, 0))) := ⟨zq5 BK1197⟩
      have n1_ : Aside0 (((w60.setCell ⟨gb1214, 0, none⟩ (.int .i64 t1211)).setCell ⟨gb1214, 1, none⟩ (.int .i64 t1212)).heap[gb1198]? = some (.cells #[.int .i64 a1_0, .int .i64 a1_1, .int .i64 a1_2, .int .i64 a1_3] 29 (0, 0))) := ⟨zq5 BK1198⟩
      have n2_ : Aside0 (((w60.setCell ⟨gb1214, 0, none⟩ (.int .i64 t1211)).setCell ⟨gb1214, 1, none⟩ (.int .i64 t1212)).heap[gb1199]? = some (.cells #[.int .i64 0, .int .i64 0, .int .i64 0, .int .i64 0] 29 (0, 0))) := ⟨zq5 BK1199⟩
      have n3_ : Aside0 (((w60.setCell ⟨gb1214, 0, none⟩ (.int .i64 t1211)).setCell ⟨gb1214, 1, none⟩ (.int .i64 t1212)).heap[gb1206]? = some (.cells #[.int .i64 t1203, .int .i64 t1204] 27 (0, 0))) := ⟨zq5 BK1206⟩
      have n4_ : Aside0 (((w60.setCell ⟨gb1214, 0, none⟩ (.int .i64 t1211)).setCell ⟨gb1214, 1, none⟩ (.int .i64 t1212)).heap[gb1214]? = some (.cells #[.int .i64 t1211, .int .i64 t1212] 27 (0, 0))) := ⟨by (with_reducible repeat (first | refine blk_drewN ?_ _ | refine blk_drew ?_ | refine blk_alloc ?_ _)); refine blk_put (cs := #[.int .i64 t1211, .int .i64 0]) ?_ 1 _ rfl; (with_reducible repeat (first | refine blk_drewN ?_ _ | refine blk_drew ?_ | refine blk_alloc ?_ _)); refine blk_put (cs := #[.int .i64 0, .int .i64 0]) ?_ 0 _ rfl; (with_reducible repeat (first | refine blk_drewN ?_ _ | refine blk_drew ?_ | refine blk_alloc ?_ _)); exact BK1214.out⟩
      have n5_ : Aside0 (Below w.heap.size w ((w60.setCell ⟨gb1214, 0, none⟩ (.int .i64 t1211)).setCell ⟨gb1214, 1, none⟩ (.int .i64 t1212))) := ⟨(zb1 HB)⟩
      (try clear BK1197)
      (try clear BK1198)
      (try clear BK1199)
      (try clear BK1206)
      (try clear BK1214)
      (try clear HB)
      generalize ((w60.setCell ⟨gb1214, 0, none⟩ (.int .i64 t1211)).setCell ⟨gb1214, 1, none⟩ (.int .i64 t1212)) = w63 at n0_ n1_ n2_ n3_ n4_ n5_ ⊢
      have BK1197 := n0_; have BK1198 := n1_; have BK1199 := n2_; have BK1206 := n3_; have BK1214 := n4_; have HB := n5_
      clear n0_ n1_ n2_ n3_ n4_ n5_
      replace BK1197 := Aside0.mk (blk_drew BK1197.out); replace BK1198 := Aside0.mk (blk_drew BK1198.out); replace BK1199 := Aside0.mk (blk_drew BK1199.out); replace BK1206 := Aside0.mk (blk_drew BK1206.out); replace BK1214 := Aside0.mk (blk_drew BK1214.out); replace HB := Aside0.mk (below_drew1 HB.out)
      refine start_ (n := 6) (S := fun w' => w'.cell? ⟨gb1206, 0, none⟩ = some (.int .i64 t1203) ∧ w'.cell? ⟨gb1206, 1, none⟩ = some (.int .i64 t1204) ∧ w'.cell? ⟨gb1214, 0, none⟩ = some (.int .i64 t1211) ∧ w'.cell? ⟨gb1214, 1, none⟩ = some (.int .i64 t1212)) (ds := []) #[false, false, false, false, false, false] (by kernel_rfl) rfl rfl ⟨zc BK1206 0, zc BK1206 1, zc BK1214 0, zc BK1214 1⟩ (fun hHeld => ?_)
      generalize w63.drew = w64 at BK1197 BK1198 BK1199 BK1206 BK1214 HB hHeld ⊢
      refine take_ (i := 0) (N := some 49) (v := ?_) (a' := ?_) #[true, false, false, false, false, false] rfl rfl (by kernel_rfl) (fun _ _ _ h => h) (Or.inl ⟨by rfl, ?_⟩) hHeld ?_ ?_
      rotate_left
      ·
       rintro w' ⟨s0, s1, s2, s3⟩
       go_simp
       with_reducible rfl
      rotate_left
      ·
       simp only [Act.put, List.setIfInBounds_toArray, List.set_cons_zero, List.set_cons_succ, i64_w, i32_w]
       rfl
      refine take_ (i := 1) (N := some 50) (v := ?_) (a' := ?_) #[true, true, false, false, false, false] rfl rfl (by kernel_rfl) (fun _ _ _ h => h) (Or.inl ⟨by rfl, ?_⟩) hHeld ?_ ?_
      rotate_left
      ·
       rintro w' ⟨s0, s1, s2, s3⟩
       go_simp
       with_reducible rfl
      rotate_left
      ·
       simp only [Act.put, List.setIfInBounds_toArray, List.set_cons_zero, List.set_cons_succ, i64_w, i32_w]
       rfl
      refine one_ (i := 2) (N := some 51) #[true, true, true, false, false, false] rfl rfl (by kernel_rfl) (by decide) (fun K hK => ?_)
      refine goes_ Try.func61 (by kernel_rfl) rfl #[.agg #[.int .i64 t1211, .int .i64 t1212]] (by rfl) rfl rfl zq6 ?_
      with_reducible refine (impl_minus.calls t1211 t1212 t1215 t1216 _ A42.out).mono ?_
      rintro e w65 ⟨rfl, hb⟩
      refine ⟨_, rfl, ?_⟩
      replace BK1197 := Aside0.mk (zbb BK1197 hb); replace BK1198 := Aside0.mk (zbb BK1198 hb); replace BK1199 := Aside0.mk (zbb BK1199 hb); replace BK1206 := Aside0.mk (zbb BK1206 hb); replace BK1214 := Aside0.mk (zbb BK1214 hb); replace HB := Aside0.mk (below_step (zb1 HB) hb)
      (try clear hb)
      (try clear hb2)
      (try clear hk)
      (try clear hi)
      refine hK.out _ _ ⟨zc BK1206 0, zc BK1206 1, zc BK1214 0, zc BK1214 1⟩ (fun hHeld => ?_)
      clear hK K
      refine norm_ (a' := ?_) ?_ ?_
      rotate_left
      ·
       show Act.put _ (some 51) _ = _
       simp only [Act.put, List.setIfInBounds_toArray, List.set_cons_zero, List.set_cons_succ, i64_w, i32_w]; rfl
      refine pure_ (i := 3) (N := some 52) (v := ?_) (a' := ?_) #[true, true, true, true, false, false] rfl rfl (by kernel_rfl) (fun _ _ _ h => h) (Or.inl ⟨by rfl, ?_⟩) ?_ ?_
      rotate_left
      ·
       intro w'
       go_simp
       with_reducible rfl
      rotate_left
      ·
       simp only [Act.put, List.setIfInBounds_toArray, List.set_cons_zero, List.set_cons_succ, i64_w, i32_w]
       rfl
      refine one_ (i := 4) (N := none) #[true, true, true, true, true, false] rfl rfl (by kernel_rfl) (by decide) (fun K hK => ?_)
      have hs66 : w65.cell? ⟨gb1199, 0, none⟩ = some (.int .i64 0) := zc BK1199 0
      have hfs66 := blk_frozen BK1199.out 0
      have hns66_0 := NB1197_1199.out
      have hns66_1 := NB1198_1199.out
      have hns66_3 := NB1206_1199.out
      have hns66_4 := NB1214_1199.out
      have hms66_0 := NB1199_1197.out
      have hms66_1 := NB1199_1198.out
      have hms66_3 := NB1199_1206.out
      have hms66_4 := NB1199_1214.out
      have hs67 : w65.cell? ⟨gb1199, 1, none⟩ = some (.int .i64 0) := zc BK1199 1
      have hfs67 := blk_frozen BK1199.out 1
      have hns67_0 := NB1197_1199.out
      have hns67_1 := NB1198_1199.out
      have hns67_3 := NB1206_1199.out
      have hns67_4 := NB1214_1199.out
      have hms67_0 := NB1199_1197.out
      have hms67_1 := NB1199_1198.out
      have hms67_3 := NB1199_1206.out
      have hms67_4 := NB1199_1214.out
      have hs68 : w65.cell? ⟨gb1199, 2, none⟩ = some (.int .i64 0) := zc BK1199 2
      have hfs68 := blk_frozen BK1199.out 2
      have hns68_0 := NB1197_1199.out
      have hns68_1 := NB1198_1199.out
      have hns68_3 := NB1206_1199.out
      have hns68_4 := NB1214_1199.out
      have hms68_0 := NB1199_1197.out
      have hms68_1 := NB1199_1198.out
      have hms68_3 := NB1199_1206.out
      have hms68_4 := NB1199_1214.out
      have hs69 : w65.cell? ⟨gb1199, 3, none⟩ = some (.int .i64 0) := zc BK1199 3
      have hfs69 := blk_frozen BK1199.out 3
      have hns69_0 := NB1197_1199.out
      have hns69_1 := NB1198_1199.out
      have hns69_3 := NB1206_1199.out
      have hns69_4 := NB1214_1199.out
      have hms69_0 := NB1199_1197.out
      have hms69_1 := NB1199_1198.out
      have hms69_3 := NB1199_1206.out
      have hms69_4 := NB1199_1214.out
      refine skip_ (w1 := ?_) (by rfl) rfl ?_ ?_
      rotate_left
      ·
       go_simp
       rfl
      refine hK.out _ _ ⟨((cell_far (p := ⟨gb1199, _, none⟩) NB1206_1199.out _).trans (((cell_far (p := ⟨gb1199, _, none⟩) NB1206_1199.out _).trans (((cell_far (p := ⟨gb1199, _, none⟩) NB1206_1199.out _).trans (((cell_far (p := ⟨gb1199, _, none⟩) NB1206_1199.out _).trans (hHeld.1)))))))), ((cell_far (p := ⟨gb1199, _, none⟩) NB1206_1199.out _).trans (((cell_far (p := ⟨gb1199, _, none⟩) NB1206_1199.out _).trans (((cell_far (p := ⟨gb1199, _, none⟩) NB1206_1199.out _).trans (((cell_far (p := ⟨gb1199, _, none⟩) NB1206_1199.out _).trans (hHeld.2.1)))))))), ((cell_far (p := ⟨gb1199, _, none⟩) NB1214_1199.out _).trans (((cell_far (p := ⟨gb1199, _, none⟩) NB1214_1199.out _).trans (((cell_far (p := ⟨gb1199, _, none⟩) NB1214_1199.out _).trans (((cell_far (p := ⟨gb1199, _, none⟩) NB1214_1199.out _).trans (hHeld.2.2.1)))))))), ((cell_far (p := ⟨gb1199, _, none⟩) NB1214_1199.out _).trans (((cell_far (p := ⟨gb1199, _, none⟩) NB1214_1199.out _).trans (((cell_far (p := ⟨gb1199, _, none⟩) NB1214_1199.out _).trans (((cell_far (p := ⟨gb1199, _, none⟩) NB1214_1199.out _).trans (hHeld.2.2.2))))))))⟩ (fun hHeld => ?_)
      clear hK K
      refine pure_ (i := 5) (N := some 5) (v := ?_) (a' := ?_) #[true, true, true, true, true, true] rfl rfl (by kernel_rfl) (fun _ _ _ h => h) (Or.inl ⟨by rfl, ?_⟩) ?_ ?_
      rotate_left
      ·
       intro w'
       go_simp
       with_reducible rfl
      rotate_left
      ·
       simp only [Act.put, List.setIfInBounds_toArray, List.set_cons_zero, List.set_cons_succ, i64_w, i32_w]
       rfl
      refine done_ (by kernel_rfl) ?_
      try go_wp2
      refine bodyPost_ret (results_ct rfl _ _ gb1199 29 #[.int .i64 t1203, .int .i64 t1204, .int .i64 t1215, .int .i64 t1216] (0, 0) _ rfl (by (with_reducible repeat (first | refine blk_drewN ?_ _ | refine blk_drew ?_ | refine blk_alloc ?_ _)); refine blk_put (cs := #[.int .i64 t1203, .int .i64 t1204, .int .i64 t1215, .int .i64 0]) ?_ 3 _ rfl; (with_reducible repeat (first | refine blk_drewN ?_ _ | refine blk_drew ?_ | refine blk_alloc ?_ _)); refine blk_put (cs := #[.int .i64 t1203, .int .i64 t1204, .int .i64 0, .int .i64 0]) ?_ 2 _ rfl; (with_reducible repeat (first | refine blk_drewN ?_ _ | refine blk_drew ?_ | refine blk_alloc ?_ _)); refine blk_put (cs := #[.int .i64 t1203, .int .i64 0, .int .i64 0, .int .i64 0]) ?_ 1 _ rfl; (with_reducible repeat (first | refine blk_drewN ?_ _ | refine blk_drew ?_ | refine blk_alloc ?_ _)); refine blk_put (cs := #[.int .i64 0, .int .i64 0, .int .i64 0, .int .i64 0]) ?_ 0 _ rfl; (with_reducible repeat (first | refine blk_drewN ?_ _ | refine blk_drew ?_ | refine blk_alloc ?_ _)); exact BK1199.out) Try.underlying29 rfl (by kernel_rfl)) rfl ?_
      exact ⟨by first | rfl | (simp [errW_none, errW_some] <;> rfl) | (simp [*, errW_none, errW_some] <;> rfl), (zb1 HB)⟩
     ·
      replace c41 := Bool.eq_false_iff.mpr c41
      subst c41
      have H1 : (some (0, 0, 0, 0, false)) = some (r1, r2, r3, r4, r5) := by rw [if_neg (show ¬ (false = true) by decide)] at H; exact H
      clear H
      have H := H1
      clear H1
      simp only [Option.some.injEq, Prod.mk.injEq] at H
      obtain ⟨rfl, rfl, rfl, rfl, rfl⟩ := H
      have hnb70 := NB1197_1198.out
      have hnc70 := NB1198_1197.out
      have hnb71 := NB1197_1199.out
      have hnc71 := NB1199_1197.out
      have hcz72_0 : wc.cell? ⟨gb1197, 0, none⟩ = some (.int .i64 a0_0) := zc BK1197 0
      have hcz72_1 : wc.cell? ⟨gb1197, 1, none⟩ = some (.int .i64 a0_1) := zc BK1197 1
      have hcz72_2 : wc.cell? ⟨gb1197, 2, none⟩ = some (.int .i64 a0_2) := zc BK1197 2
      have hcz72_3 : wc.cell? ⟨gb1197, 3, none⟩ = some (.int .i64 a0_3) := zc BK1197 3
      have hfz72_0 := blk_frozen BK1197.out 0
      have hfz72_1 := blk_frozen BK1197.out 1
      have hfz72_2 := blk_frozen BK1197.out 2
      have hfz72_3 := blk_frozen BK1197.out 3
      have hnb73 := NB1198_1199.out
      have hnc73 := NB1199_1198.out
      have hcz74_0 : wc.cell? ⟨gb1198, 0, none⟩ = some (.int .i64 a1_0) := zc BK1198 0
      have hcz74_1 : wc.cell? ⟨gb1198, 1, none⟩ = some (.int .i64 a1_1) := zc BK1198 1
      have hcz74_2 : wc.cell? ⟨gb1198, 2, none⟩ = some (.int .i64 a1_2) := zc BK1198 2
      have hcz74_3 : wc.cell? ⟨gb1198, 3, none⟩ = some (.int .i64 a1_3) := zc BK1198 3
      have hfz74_0 := blk_frozen BK1198.out 0
      have hfz74_1 := blk_frozen BK1198.out 1
      have hfz74_2 := blk_frozen BK1198.out 2
      have hfz74_3 := blk_frozen BK1198.out 3
      try go_wp2_with (first | ((with_reducible refine gate_callee (f := 74) rfl ?_); refine goesL_ (some 27) rfl rfl Try.func74 (by kernel_rfl) rfl #[.agg #[.int .i64 a0_0, .int .i64 a0_1, .int .i64 a0_2, .int .i64 a0_3], .agg #[.int .i64 a1_0, .int .i64 a1_1, .int .i64 a1_2, .int .i64 a1_3]] rfl zq6 ?_; (with_reducible refine (impl_leastQuotient.calls kj2 a0_0 a0_1 a0_2 a0_3 a1_0 a1_1 a1_2 a1_3 t1203 t1204 true _ A36.out).mono ?_); rintro e w75 ⟨rfl, hb⟩; refine ⟨_, rfl, ?_⟩; replace BK1197 := Aside0.mk (zbb BK1197 hb); replace BK1198 := Aside0.mk (zbb BK1198 hb); replace BK1199 := Aside0.mk (zbb BK1199 hb); replace HB := Aside0.mk (below_step (zb1 HB) hb); (try clear hb); (try clear hb2); (try clear hk); (try clear hi)) | ((with_reducible refine gate_dst (N := 6) rfl ?_); refine zbe (N := 6) (cs := #[.int .i64 0, .int .i64 0]) (t := 27) ?_; intro gb1206 hg w76 hbox hb; have BK1206 := Aside0.mk (hbox); have GW1206 := Aside0.mk (zge (zb1 HB) hg); have GE1206 := GW1206; have NB1197_1206 := Aside0.mk (zlt BK1197 hg); have NB1206_1197 := Aside0.mk (zgt BK1197 hg); have NB1198_1206 := Aside0.mk (zlt BK1198 hg); have NB1206_1198 := Aside0.mk (zgt BK1198 hg); have NB1199_1206 := Aside0.mk (zlt BK1199 hg); have NB1206_1199 := Aside0.mk (zgt BK1199 hg); replace BK1197 := Aside0.mk (zbb BK1197 hb); replace BK1198 := Aside0.mk (zbb BK1198 hb); replace BK1199 := Aside0.mk (zbb BK1199 hb); replace HB := Aside0.mk (below_step (zb1 HB) hb); clear hb hbox hg; have hnb77 := NB1206_1197.out; have hnc77 := NB1197_1206.out; have hnb78 := NB1206_1198.out; have hnc78 := NB1198_1206.out; have hnb79 := NB1206_1199.out; have hnc79 := NB1199_1206.out; have hcz80_0 : w76.cell? ⟨gb1206, 0, none⟩ = some (.int .i64 0) := zc BK1206 0; have hcz80_1 : w76.cell? ⟨gb1206, 1, none⟩ = some (.int .i64 0) := zc BK1206 1; have hfz80_0 := blk_frozen BK1206.out 0; have hfz80_1 := blk_frozen BK1206.out 1))
      have n0_ : Aside0 (((w76.setCell ⟨gb1206, 0, none⟩ (.int .i64 t1203)).setCell ⟨gb1206, 1, none⟩ (.int .i64 t1204)).heap[gb1197]? = some (.cells #[.int .i64 a0_0, .int .i64 a0_1, .int .i64 a0_2, .int .i64 a0_3] 29 (0, 0))) := ⟨zq5 BK1197⟩
      have n1_ : Aside0 (((w76.setCell ⟨gb1206, 0, none⟩ (.int .i64 t1203)).setCell ⟨gb1206, 1, none⟩ (.int .i64 t1204)).heap[gb1198]? = some (.cells #[.int .i64 a1_0, .int .i64 a1_1, .int .i64 a1_2, .int .i64 a1_3] 29 (0, 0))) := ⟨zq5 BK1198⟩
      have n2_ : Aside0 (((w76.setCell ⟨gb1206, 0, none⟩ (.int .i64 t1203)).setCell ⟨gb1206, 1, none⟩ (.int .i64 t1204)).heap[gb1199]? = some (.cells #[.int .i64 0, .int .i64 0, .int .i64 0, .int .i64 0] 29 (0, 0))) := ⟨zq5 BK1199⟩
      have n3_ : Aside0 (((w76.setCell ⟨gb1206, 0, none⟩ (.int .i64 t1203)).setCell ⟨gb1206, 1, none⟩ (.int .i64 t1204)).heap[gb1206]? = some (.cells #[.int .i64 t1203, .int .i64 t1204] 27 (0, 0))) := ⟨by (with_reducible repeat (first | refine blk_drewN ?_ _ | refine blk_drew ?_ | refine blk_alloc ?_ _)); refine blk_put (cs := #[.int .i64 t1203, .int .i64 0]) ?_ 1 _ rfl; (with_reducible repeat (first | refine blk_drewN ?_ _ | refine blk_drew ?_ | refine blk_alloc ?_ _)); refine blk_put (cs := #[.int .i64 0, .int .i64 0]) ?_ 0 _ rfl; (with_reducible repeat (first | refine blk_drewN ?_ _ | refine blk_drew ?_ | refine blk_alloc ?_ _)); exact BK1206.out⟩
      have n4_ : Aside0 (Below w.heap.size w ((w76.setCell ⟨gb1206, 0, none⟩ (.int .i64 t1203)).setCell ⟨gb1206, 1, none⟩ (.int .i64 t1204))) := ⟨(zb1 HB)⟩
      (try clear BK1197)
      (try clear BK1198)
      (try clear BK1199)
      (try clear BK1206)
      (try clear HB)
      generalize ((w76.setCell ⟨gb1206, 0, none⟩ (.int .i64 t1203)).setCell ⟨gb1206, 1, none⟩ (.int .i64 t1204)) = w81 at n0_ n1_ n2_ n3_ n4_ ⊢
      have BK1197 := n0_; have BK1198 := n1_; have BK1199 := n2_; have BK1206 := n3_; have HB := n4_
      clear n0_ n1_ n2_ n3_ n4_
      replace BK1197 := Aside0.mk (blk_drew BK1197.out); replace BK1198 := Aside0.mk (blk_drew BK1198.out); replace BK1199 := Aside0.mk (blk_drew BK1199.out); replace BK1206 := Aside0.mk (blk_drew BK1206.out); replace HB := Aside0.mk (below_drew1 HB.out)
      refine start_ (n := 15) (S := fun w' => w'.cell? ⟨gb1197, 0, none⟩ = some (.int .i64 a0_0) ∧ w'.cell? ⟨gb1197, 1, none⟩ = some (.int .i64 a0_1) ∧ w'.cell? ⟨gb1197, 2, none⟩ = some (.int .i64 a0_2) ∧ w'.cell? ⟨gb1197, 3, none⟩ = some (.int .i64 a0_3) ∧ w'.cell? ⟨gb1198, 0, none⟩ = some (.int .i64 a1_0) ∧ w'.cell? ⟨gb1198, 1, none⟩ = some (.int .i64 a1_1) ∧ w'.cell? ⟨gb1198, 2, none⟩ = some (.int .i64 a1_2) ∧ w'.cell? ⟨gb1198, 3, none⟩ = some (.int .i64 a1_3)) (ds := []) #[false, false, false, false, false, false, false, false, false, false, false, false, false, false, false] (by kernel_rfl) rfl rfl ⟨zc BK1197 0, zc BK1197 1, zc BK1197 2, zc BK1197 3, zc BK1198 0, zc BK1198 1, zc BK1198 2, zc BK1198 3⟩ (fun hHeld => ?_); refine with_tabW impl_DivideIntervals.tab4 impl_DivideIntervals.bits4 (fun HT_ HW_ => ?_)
      generalize w81.drew = w82 at BK1197 BK1198 BK1199 BK1206 HB hHeld ⊢
      refine zp (i := 0) (N := some 31) #[true, false, false, false, false, false, false, false, false, false, false, false, false, false, false] (any_of HT_.out (by kernel_rfl)) ?_
      refine zp (i := 3) (N := some 34) #[true, false, false, true, false, false, false, false, false, false, false, false, false, false, false] (any_of HT_.out (by kernel_rfl)) ?_
      refine take_ (i := 1) (N := some 32) (v := ?_) (a' := ?_) #[true, true, false, true, false, false, false, false, false, false, false, false, false, false, false] rfl rfl (take_ofW HT_.out HW_.out (by kernel_rfl)) (fun _ _ _ h => h) (Or.inl ⟨by rfl, ?_⟩) hHeld ?_ ?_
      rotate_left
      ·
       rintro w' ⟨s0, s1, s2, s3, s4, s5, s6, s7⟩
       go_simp
       with_reducible rfl
      rotate_left
      ·
       simp only [Act.put, List.setIfInBounds_toArray, List.set_cons_zero, List.set_cons_succ, i64_w, i32_w]
       rfl
      refine take_ (i := 4) (N := some 35) (v := ?_) (a' := ?_) #[true, true, false, true, true, false, false, false, false, false, false, false, false, false, false] rfl rfl (take_ofW HT_.out HW_.out (by kernel_rfl)) (fun _ _ _ h => h) (Or.inl ⟨by rfl, ?_⟩) hHeld ?_ ?_
      rotate_left
      ·
       rintro w' ⟨s0, s1, s2, s3, s4, s5, s6, s7⟩
       go_simp
       with_reducible rfl
      rotate_left
      ·
       simp only [Act.put, List.setIfInBounds_toArray, List.set_cons_zero, List.set_cons_succ, i64_w, i32_w]
       rfl
      refine take_ (i := 7) (N := some 38) (v := ?_) (a' := ?_) #[true, true, false, true, true, false, false, true, false, false, false, false, false, false, false] rfl rfl (take_ofW HT_.out HW_.out (by kernel_rfl)) (fun _ _ _ h => h) (Or.inl ⟨by rfl, ?_⟩) hHeld ?_ ?_
      rotate_left
      ·
       rintro w' ⟨s0, s1, s2, s3, s4, s5, s6, s7⟩
       go_simp
       with_reducible rfl
      rotate_left
      ·
       simp only [Act.put, List.setIfInBounds_toArray, List.set_cons_zero, List.set_cons_succ, i64_w, i32_w]
       rfl
      refine join_ (σ := Nat) 2 #[true, true, true, true, true, true, true, true, true, true, true, true, true, false, false] (fun s_ => [(33, .agg #[.int .i64 t1207, .int .i64 t1208]), (36, .agg #[.int .i64 t1209, .int .i64 t1210]), (39, .tuple #[.agg #[.int .i64 t1211, .int .i64 t1212], .bool false]), (8, .pointer (some ⟨s_, 0, none⟩)), (37, .agg #[.int .i64 t1207, .int .i64 t1208, .int .i64 t1209, .int .i64 t1210]), (30, .tuple #[.agg #[.int .i64 t1211, .int .i64 t1212], .bool false]), (40, .agg #[.int .i64 t1211, .int .i64 t1212]), (41, .bool false)]) (fun s_ w' => (w'.cell? ⟨gb1197, 0, none⟩ = some (.int .i64 a0_0) ∧ w'.cell? ⟨gb1197, 1, none⟩ = some (.int .i64 a0_1) ∧ w'.cell? ⟨gb1197, 2, none⟩ = some (.int .i64 a0_2) ∧ w'.cell? ⟨gb1197, 3, none⟩ = some (.int .i64 a0_3) ∧ w'.cell? ⟨gb1198, 0, none⟩ = some (.int .i64 a1_0) ∧ w'.cell? ⟨gb1198, 1, none⟩ = some (.int .i64 a1_1) ∧ w'.cell? ⟨gb1198, 2, none⟩ = some (.int .i64 a1_2) ∧ w'.cell? ⟨gb1198, 3, none⟩ = some (.int .i64 a1_3)) ∧ (w'.heap[gb1197]? = some (.cells #[.int .i64 a0_0, .int .i64 a0_1, .int .i64 a0_2, .int .i64 a0_3] 29 (0, 0))) ∧ (w'.heap[gb1198]? = some (.cells #[.int .i64 a1_0, .int .i64 a1_1, .int .i64 a1_2, .int .i64 a1_3] 29 (0, 0))) ∧ (w'.heap[gb1199]? = some (.cells #[.int .i64 0, .int .i64 0, .int .i64 0, .int .i64 0] 29 (0, 0))) ∧ (w'.heap[gb1206]? = some (.cells #[.int .i64 t1203, .int .i64 t1204] 27 (0, 0))) ∧ (w'.heap[s_]? = some (.cells #[.int .i64 0, .int .i64 0] 27 (0, 0))) ∧ (w.heap.size ≤ s_) ∧ (w.heap.size ≤ s_) ∧ (gb1197 ≠ s_) ∧ (s_ ≠ gb1197) ∧ (gb1198 ≠ s_) ∧ (s_ ≠ gb1198) ∧ (gb1199 ≠ s_) ∧ (s_ ≠ gb1199) ∧ (gb1206 ≠ s_) ∧ (s_ ≠ gb1206) ∧ (Below w.heap.size w w')) ?_ ?_
      rotate_left
      ·
       intro hCont
       refine two_ (i := 2) (j := 12) (Ni := some 33) (Nj := some 8) #[true, true, true, true, true, false, false, true, false, false, false, false, false, false, false] #[true, true, false, true, true, false, false, true, false, false, false, false, true, false, false] rfl rfl rfl rfl (two_of HT_.out (by kernel_rfl)) (by decide) (by decide) (fun K hK => ?_) (fun K hK => ?_)
       ·
        refine goes_ Try.func61 (by kernel_rfl) rfl #[.agg #[.int .i64 a0_2, .int .i64 a0_3]] (by rfl) rfl rfl zq6 ?_
        with_reducible refine (impl_minus.calls a0_2 a0_3 t1207 t1208 _ A37.out).mono ?_
        rintro e w83 ⟨rfl, hb⟩
        refine ⟨_, rfl, ?_⟩
        replace BK1197 := Aside0.mk (zbb BK1197 hb); replace BK1198 := Aside0.mk (zbb BK1198 hb); replace BK1199 := Aside0.mk (zbb BK1199 hb); replace BK1206 := Aside0.mk (zbb BK1206 hb); replace HB := Aside0.mk (below_step (zb1 HB) hb)
        (try clear hb)
        (try clear hb2)
        (try clear hk)
        (try clear hi)
        refine hK.out _ _ ⟨zc BK1197 0, zc BK1197 1, zc BK1197 2, zc BK1197 3, zc BK1198 0, zc BK1198 1, zc BK1198 2, zc BK1198 3⟩ (fun hHeld => ?_)
        clear hK K
        refine norm_ (a' := ?_) ?_ ?_
        rotate_left
        ·
         show Act.put _ (some 33) _ = _
         simp only [Act.put, List.setIfInBounds_toArray, List.set_cons_zero, List.set_cons_succ, i64_w, i32_w]; rfl
        refine two_ (i := 5) (j := 12) (Ni := some 36) (Nj := some 8) #[true, true, true, true, true, true, false, true, false, false, false, false, false, false, false] #[true, true, true, true, true, false, false, true, false, false, false, false, true, false, false] rfl rfl rfl rfl (two_of HT_.out (by kernel_rfl)) (by decide) (by decide) (fun K hK => ?_) (fun K hK => ?_)
        ·
         refine goes_ Try.func61 (by kernel_rfl) rfl #[.agg #[.int .i64 a0_0, .int .i64 a0_1]] (by rfl) rfl rfl zq6 ?_
         with_reducible refine (impl_minus.calls a0_0 a0_1 t1209 t1210 _ A38.out).mono ?_
         rintro e w84 ⟨rfl, hb⟩
         refine ⟨_, rfl, ?_⟩
         replace BK1197 := Aside0.mk (zbb BK1197 hb); replace BK1198 := Aside0.mk (zbb BK1198 hb); replace BK1199 := Aside0.mk (zbb BK1199 hb); replace BK1206 := Aside0.mk (zbb BK1206 hb); replace HB := Aside0.mk (below_step (zb1 HB) hb)
         (try clear hb)
         (try clear hb2)
         (try clear hk)
         (try clear hi)
         refine hK.out _ _ ⟨zc BK1197 0, zc BK1197 1, zc BK1197 2, zc BK1197 3, zc BK1198 0, zc BK1198 1, zc BK1198 2, zc BK1198 3⟩ (fun hHeld => ?_)
         clear hK K
         refine norm_ (a' := ?_) ?_ ?_
         rotate_left
         ·
          show Act.put _ (some 36) _ = _
          simp only [Act.put, List.setIfInBounds_toArray, List.set_cons_zero, List.set_cons_succ, i64_w, i32_w]; rfl
         refine zp (i := 6) (N := some 37) #[true, true, true, true, true, true, true, true, false, false, false, false, false, false, false] (any_of HT_.out (by kernel_rfl)) ?_
         refine two_ (i := 8) (j := 12) (Ni := some 39) (Nj := some 8) #[true, true, true, true, true, true, true, true, true, false, false, false, false, false, false] #[true, true, true, true, true, true, true, true, false, false, false, false, true, false, false] rfl rfl rfl rfl (two_of HT_.out (by kernel_rfl)) (by decide) (by decide) (fun K hK => ?_) (fun K hK => ?_)
         ·
          refine goes_ Try.func74 (by kernel_rfl) rfl #[.agg #[.int .i64 t1207, .int .i64 t1208, .int .i64 t1209, .int .i64 t1210], .agg #[.int .i64 a1_0, .int .i64 a1_1, .int .i64 a1_2, .int .i64 a1_3]] (by rfl) rfl rfl zq6 ?_
          with_reducible refine (impl_leastQuotient.calls kj2 t1207 t1208 t1209 t1210 a1_0 a1_1 a1_2 a1_3 t1211 t1212 false _ A39.out).mono ?_
          rintro e w85 ⟨rfl, hb⟩
          refine ⟨_, rfl, ?_⟩
          replace BK1197 := Aside0.mk (zbb BK1197 hb); replace BK1198 := Aside0.mk (zbb BK1198 hb); replace BK1199 := Aside0.mk (zbb BK1199 hb); replace BK1206 := Aside0.mk (zbb BK1206 hb); replace HB := Aside0.mk (below_step (zb1 HB) hb)
          (try clear hb)
          (try clear hb2)
          (try clear hk)
          (try clear hi)
          refine hK.out _ _ ⟨zc BK1197 0, zc BK1197 1, zc BK1197 2, zc BK1197 3, zc BK1198 0, zc BK1198 1, zc BK1198 2, zc BK1198 3⟩ (fun hHeld => ?_)
          clear hK K
          refine norm_ (a' := ?_) ?_ ?_
          rotate_left
          ·
           show Act.put _ (some 39) _ = _
           simp only [Act.put, List.setIfInBounds_toArray, List.set_cons_zero, List.set_cons_succ, i64_w, i32_w]; rfl
          refine zp (i := 9) (N := some 30) #[true, true, true, true, true, true, true, true, true, true, false, false, false, false, false] (any_of HT_.out (by kernel_rfl)) ?_
          refine zp (i := 10) (N := some 40) #[true, true, true, true, true, true, true, true, true, true, true, false, false, false, false] (any_of HT_.out (by kernel_rfl)) ?_
          refine zp (i := 11) (N := some 41) #[true, true, true, true, true, true, true, true, true, true, true, true, false, false, false] (any_of HT_.out (by kernel_rfl)) ?_
          refine one_ (i := 12) (N := some 8) #[true, true, true, true, true, true, true, true, true, true, true, true, true, false, false] rfl rfl (one_of HT_.out (by kernel_rfl)) (by decide) (fun K hK => ?_)
          refine box_step ?hg (N := 8) ?hd (cs := #[.int .i64 0, .int .i64 0]) (t := 27) ?hr ?_; (case hd => rfl); (case hg => rfl); (case hr => first | (go_simp; done) | (go_simp; rfl))
          intro gb1214 hg w86 hbox hb
          have n0_ := Aside0.mk (zbb BK1197 hb)
          have n1_ := Aside0.mk (zbb BK1198 hb)
          have n2_ := Aside0.mk (zbb BK1199 hb)
          have n3_ := Aside0.mk (zbb BK1206 hb)
          have n4_ := Aside0.mk (below_step (zb1 HB) hb)
          have BK1214 := Aside0.mk (hbox)
          have GW1214 := Aside0.mk (zge (zb1 HB) hg)
          have GE1214 := Aside0.mk (zge (zb1 HB) hg)
          have NB1197_1214 := Aside0.mk (zlt BK1197 hg)
          have NB1214_1197 := Aside0.mk (zgt BK1197 hg)
          have NB1198_1214 := Aside0.mk (zlt BK1198 hg)
          have NB1214_1198 := Aside0.mk (zgt BK1198 hg)
          have NB1199_1214 := Aside0.mk (zlt BK1199 hg)
          have NB1214_1199 := Aside0.mk (zgt BK1199 hg)
          have NB1206_1214 := Aside0.mk (zlt BK1206 hg)
          have NB1214_1206 := Aside0.mk (zgt BK1206 hg)
          clear BK1197 BK1198 BK1199 BK1206 HB
          have BK1197 := n0_; have BK1198 := n1_; have BK1199 := n2_; have BK1206 := n3_; have HB := n4_
          clear n0_ n1_ n2_ n3_ n4_ hb hbox hg
          refine hK.out _ _ ⟨zc BK1197 0, zc BK1197 1, zc BK1197 2, zc BK1197 3, zc BK1198 0, zc BK1198 1, zc BK1198 2, zc BK1198 3⟩ (fun hHeld => ?_)
          clear hK K
          refine norm_ (a' := ?_) ?_ ?_
          rotate_left
          ·
           show Act.put _ (some 8) _ = _
           simp only [Act.put, List.setIfInBounds_toArray, List.set_cons_zero, List.set_cons_succ, i64_w, i32_w]; rfl
          exact norm_ (by simp only [putAll, Act.put, List.setIfInBounds_toArray, List.set_cons_zero, List.set_cons_succ]) (hCont (gb1214) _ ⟨hHeld, (zq1 BK1197), (zq1 BK1198), (zq1 BK1199), (zq1 BK1206), (zq1 BK1214), GW1214.out, GE1214.out, NB1197_1214.out, NB1214_1197.out, NB1198_1214.out, NB1214_1198.out, NB1199_1214.out, NB1214_1199.out, NB1206_1214.out, NB1214_1206.out, (zb1 HB)⟩)
         ·
          refine box_step ?hg (N := 8) ?hd (cs := #[.int .i64 0, .int .i64 0]) (t := 27) ?hr ?_; (case hd => rfl); (case hg => rfl); (case hr => first | (go_simp; done) | (go_simp; rfl))
          intro gb1214 hg w85 hbox hb
          have n0_ := Aside0.mk (zbb BK1197 hb)
          have n1_ := Aside0.mk (zbb BK1198 hb)
          have n2_ := Aside0.mk (zbb BK1199 hb)
          have n3_ := Aside0.mk (zbb BK1206 hb)
          have n4_ := Aside0.mk (below_step (zb1 HB) hb)
          have BK1214 := Aside0.mk (hbox)
          have GW1214 := Aside0.mk (zge (zb1 HB) hg)
          have GE1214 := Aside0.mk (zge (zb1 HB) hg)
          have NB1197_1214 := Aside0.mk (zlt BK1197 hg)
          have NB1214_1197 := Aside0.mk (zgt BK1197 hg)
          have NB1198_1214 := Aside0.mk (zlt BK1198 hg)
          have NB1214_1198 := Aside0.mk (zgt BK1198 hg)
          have NB1199_1214 := Aside0.mk (zlt BK1199 hg)
          have NB1214_1199 := Aside0.mk (zgt BK1199 hg)
          have NB1206_1214 := Aside0.mk (zlt BK1206 hg)
          have NB1214_1206 := Aside0.mk (zgt BK1206 hg)
          clear BK1197 BK1198 BK1199 BK1206 HB
          have BK1197 := n0_; have BK1198 := n1_; have BK1199 := n2_; have BK1206 := n3_; have HB := n4_
          clear n0_ n1_ n2_ n3_ n4_ hb hbox hg
          refine hK.out _ _ ⟨zc BK1197 0, zc BK1197 1, zc BK1197 2, zc BK1197 3, zc BK1198 0, zc BK1198 1, zc BK1198 2, zc BK1198 3⟩ (fun hHeld => ?_)
          clear hK K
          refine norm_ (a' := ?_) ?_ ?_
          rotate_left
          ·
           show Act.put _ (some 8) _ = _
           simp only [Act.put, List.setIfInBounds_toArray, List.set_cons_zero, List.set_cons_succ, i64_w, i32_w]; rfl
          refine one_ (i := 8) (N := some 39) #[true, true, true, true, true, true, true, true, true, false, false, false, true, false, false] rfl rfl (one_of HT_.out (by kernel_rfl)) (by decide) (fun K hK => ?_)
          refine goes_ Try.func74 (by kernel_rfl) rfl #[.agg #[.int .i64 t1207, .int .i64 t1208, .int .i64 t1209, .int .i64 t1210], .agg #[.int .i64 a1_0, .int .i64 a1_1, .int .i64 a1_2, .int .i64 a1_3]] (by rfl) rfl rfl zq6 ?_
          with_reducible refine (impl_leastQuotient.calls kj2 t1207 t1208 t1209 t1210 a1_0 a1_1 a1_2 a1_3 t1211 t1212 false _ A39.out).mono ?_
          rintro e w86 ⟨rfl, hb⟩
          refine ⟨_, rfl, ?_⟩
          replace BK1197 := Aside0.mk (zbb BK1197 hb); replace BK1198 := Aside0.mk (zbb BK1198 hb); replace BK1199 := Aside0.mk (zbb BK1199 hb); replace BK1206 := Aside0.mk (zbb BK1206 hb); replace BK1214 := Aside0.mk (zbb BK1214 hb); replace HB := Aside0.mk (below_step (zb1 HB) hb)
          (try clear hb)
          (try clear hb2)
          (try clear hk)
          (try clear hi)
          refine hK.out _ _ ⟨zc BK1197 0, zc BK1197 1, zc BK1197 2, zc BK1197 3, zc BK1198 0, zc BK1198 1, zc BK1198 2, zc BK1198 3⟩ (fun hHeld => ?_)
          clear hK K
          refine norm_ (a' := ?_) ?_ ?_
          rotate_left
          ·
           show Act.put _ (some 39) _ = _
           simp only [Act.put, List.setIfInBounds_toArray, List.set_cons_zero, List.set_cons_succ, i64_w, i32_w]; rfl
          refine zp (i := 9) (N := some 30) #[true, true, true, true, true, true, true, true, true, true, false, false, true, false, false] (any_of HT_.out (by kernel_rfl)) ?_
          refine zp (i := 10) (N := some 40) #[true, true, true, true, true, true, true, true, true, true, true, false, true, false, false] (any_of HT_.out (by kernel_rfl)) ?_
          refine zp (i := 11) (N := some 41) #[true, true, true, true, true, true, true, true, true, true, true, true, true, false, false] (any_of HT_.out (by kernel_rfl)) ?_
          exact norm_ (by simp only [putAll, Act.put, List.setIfInBounds_toArray, List.set_cons_zero, List.set_cons_succ]) (hCont (gb1214) _ ⟨hHeld, (zq1 BK1197), (zq1 BK1198), (zq1 BK1199), (zq1 BK1206), (zq1 BK1214), GW1214.out, GE1214.out, NB1197_1214.out, NB1214_1197.out, NB1198_1214.out, NB1214_1198.out, NB1199_1214.out, NB1214_1199.out, NB1206_1214.out, NB1214_1206.out, (zb1 HB)⟩)
        ·
         refine box_step ?hg (N := 8) ?hd (cs := #[.int .i64 0, .int .i64 0]) (t := 27) ?hr ?_; (case hd => rfl); (case hg => rfl); (case hr => first | (go_simp; done) | (go_simp; rfl))
         intro gb1214 hg w84 hbox hb
         have n0_ := Aside0.mk (zbb BK1197 hb)
         have n1_ := Aside0.mk (zbb BK1198 hb)
         have n2_ := Aside0.mk (zbb BK1199 hb)
         have n3_ := Aside0.mk (zbb BK1206 hb)
         have n4_ := Aside0.mk (below_step (zb1 HB) hb)
         have BK1214 := Aside0.mk (hbox)
         have GW1214 := Aside0.mk (zge (zb1 HB) hg)
         have GE1214 := Aside0.mk (zge (zb1 HB) hg)
         have NB1197_1214 := Aside0.mk (zlt BK1197 hg)
         have NB1214_1197 := Aside0.mk (zgt BK1197 hg)
         have NB1198_1214 := Aside0.mk (zlt BK1198 hg)
         have NB1214_1198 := Aside0.mk (zgt BK1198 hg)
         have NB1199_1214 := Aside0.mk (zlt BK1199 hg)
         have NB1214_1199 := Aside0.mk (zgt BK1199 hg)
         have NB1206_1214 := Aside0.mk (zlt BK1206 hg)
         have NB1214_1206 := Aside0.mk (zgt BK1206 hg)
         clear BK1197 BK1198 BK1199 BK1206 HB
         have BK1197 := n0_; have BK1198 := n1_; have BK1199 := n2_; have BK1206 := n3_; have HB := n4_
         clear n0_ n1_ n2_ n3_ n4_ hb hbox hg
         refine hK.out _ _ ⟨zc BK1197 0, zc BK1197 1, zc BK1197 2, zc BK1197 3, zc BK1198 0, zc BK1198 1, zc BK1198 2, zc BK1198 3⟩ (fun hHeld => ?_)
         clear hK K
         refine norm_ (a' := ?_) ?_ ?_
         rotate_left
         ·
          show Act.put _ (some 8) _ = _
          simp only [Act.put, List.setIfInBounds_toArray, List.set_cons_zero, List.set_cons_succ, i64_w, i32_w]; rfl
         refine one_ (i := 5) (N := some 36) #[true, true, true, true, true, true, false, true, false, false, false, false, true, false, false] rfl rfl (one_of HT_.out (by kernel_rfl)) (by decide) (fun K hK => ?_)
         refine goes_ Try.func61 (by kernel_rfl) rfl #[.agg #[.int .i64 a0_0, .int .i64 a0_1]] (by rfl) rfl rfl zq6 ?_
         with_reducible refine (impl_minus.calls a0_0 a0_1 t1209 t1210 _ A38.out).mono ?_
         rintro e w85 ⟨rfl, hb⟩
         refine ⟨_, rfl, ?_⟩
         replace BK1197 := Aside0.mk (zbb BK1197 hb); replace BK1198 := Aside0.mk (zbb BK1198 hb); replace BK1199 := Aside0.mk (zbb BK1199 hb); replace BK1206 := Aside0.mk (zbb BK1206 hb); replace BK1214 := Aside0.mk (zbb BK1214 hb); replace HB := Aside0.mk (below_step (zb1 HB) hb)
         (try clear hb)
         (try clear hb2)
         (try clear hk)
         (try clear hi)
         refine hK.out _ _ ⟨zc BK1197 0, zc BK1197 1, zc BK1197 2, zc BK1197 3, zc BK1198 0, zc BK1198 1, zc BK1198 2, zc BK1198 3⟩ (fun hHeld => ?_)
         clear hK K
         refine norm_ (a' := ?_) ?_ ?_
         rotate_left
         ·
          show Act.put _ (some 36) _ = _
          simp only [Act.put, List.setIfInBounds_toArray, List.set_cons_zero, List.set_cons_succ, i64_w, i32_w]; rfl
         refine zp (i := 6) (N := some 37) #[true, true, true, true, true, true, true, true, false, false, false, false, true, false, false] (any_of HT_.out (by kernel_rfl)) ?_
         refine one_ (i := 8) (N := some 39) #[true, true, true, true, true, true, true, true, true, false, false, false, true, false, false] rfl rfl (one_of HT_.out (by kernel_rfl)) (by decide) (fun K hK => ?_)
         refine goes_ Try.func74 (by kernel_rfl) rfl #[.agg #[.int .i64 t1207, .int .i64 t1208, .int .i64 t1209, .int .i64 t1210], .agg #[.int .i64 a1_0, .int .i64 a1_1, .int .i64 a1_2, .int .i64 a1_3]] (by rfl) rfl rfl zq6 ?_
         with_reducible refine (impl_leastQuotient.calls kj2 t1207 t1208 t1209 t1210 a1_0 a1_1 a1_2 a1_3 t1211 t1212 false _ A39.out).mono ?_
         rintro e w86 ⟨rfl, hb⟩
         refine ⟨_, rfl, ?_⟩
         replace BK1197 := Aside0.mk (zbb BK1197 hb); replace BK1198 := Aside0.mk (zbb BK1198 hb); replace BK1199 := Aside0.mk (zbb BK1199 hb); replace BK1206 := Aside0.mk (zbb BK1206 hb); replace BK1214 := Aside0.mk (zbb BK1214 hb); replace HB := Aside0.mk (below_step (zb1 HB) hb)
         (try clear hb)
         (try clear hb2)
         (try clear hk)
         (try clear hi)
         refine hK.out _ _ ⟨zc BK1197 0, zc BK1197 1, zc BK1197 2, zc BK1197 3, zc BK1198 0, zc BK1198 1, zc BK1198 2, zc BK1198 3⟩ (fun hHeld => ?_)
         clear hK K
         refine norm_ (a' := ?_) ?_ ?_
         rotate_left
         ·
          show Act.put _ (some 39) _ = _
          simp only [Act.put, List.setIfInBounds_toArray, List.set_cons_zero, List.set_cons_succ, i64_w, i32_w]; rfl
         refine zp (i := 9) (N := some 30) #[true, true, true, true, true, true, true, true, true, true, false, false, true, false, false] (any_of HT_.out (by kernel_rfl)) ?_
         refine zp (i := 10) (N := some 40) #[true, true, true, true, true, true, true, true, true, true, true, false, true, false, false] (any_of HT_.out (by kernel_rfl)) ?_
         refine zp (i := 11) (N := some 41) #[true, true, true, true, true, true, true, true, true, true, true, true, true, false, false] (any_of HT_.out (by kernel_rfl)) ?_
         exact norm_ (by simp only [putAll, Act.put, List.setIfInBounds_toArray, List.set_cons_zero, List.set_cons_succ]) (hCont (gb1214) _ ⟨hHeld, (zq1 BK1197), (zq1 BK1198), (zq1 BK1199), (zq1 BK1206), (zq1 BK1214), GW1214.out, GE1214.out, NB1197_1214.out, NB1214_1197.out, NB1198_1214.out, NB1214_1198.out, NB1199_1214.out, NB1214_1199.out, NB1206_1214.out, NB1214_1206.out, (zb1 HB)⟩)
       ·
        refine box_step ?hg (N := 8) ?hd (cs := #[.int .i64 0, .int .i64 0]) (t := 27) ?hr ?_; (case hd => rfl); (case hg => rfl); (case hr => first | (go_simp; done) | (go_simp; rfl))
        intro gb1214 hg w83 hbox hb
        have n0_ := Aside0.mk (zbb BK1197 hb)
        have n1_ := Aside0.mk (zbb BK1198 hb)
        have n2_ := Aside0.mk (zbb BK1199 hb)
        have n3_ := Aside0.mk (zbb BK1206 hb)
        have n4_ := Aside0.mk (below_step (zb1 HB) hb)
        have BK1214 := Aside0.mk (hbox)
        have GW1214 := Aside0.mk (zge (zb1 HB) hg)
        have GE1214 := Aside0.mk (zge (zb1 HB) hg)
        have NB1197_1214 := Aside0.mk (zlt BK1197 hg)
        have NB1214_1197 := Aside0.mk (zgt BK1197 hg)
        have NB1198_1214 := Aside0.mk (zlt BK1198 hg)
        have NB1214_1198 := Aside0.mk (zgt BK1198 hg)
        have NB1199_1214 := Aside0.mk (zlt BK1199 hg)
        have NB1214_1199 := Aside0.mk (zgt BK1199 hg)
        have NB1206_1214 := Aside0.mk (zlt BK1206 hg)
        have NB1214_1206 := Aside0.mk (zgt BK1206 hg)
        clear BK1197 BK1198 BK1199 BK1206 HB
        have BK1197 := n0_; have BK1198 := n1_; have BK1199 := n2_; have BK1206 := n3_; have HB := n4_
        clear n0_ n1_ n2_ n3_ n4_ hb hbox hg
        refine hK.out _ _ ⟨zc BK1197 0, zc BK1197 1, zc BK1197 2, zc BK1197 3, zc BK1198 0, zc BK1198 1, zc BK1198 2, zc BK1198 3⟩ (fun hHeld => ?_)
        clear hK K
        refine norm_ (a' := ?_) ?_ ?_
        rotate_left
        ·
         show Act.put _ (some 8) _ = _
         simp only [Act.put, List.setIfInBounds_toArray, List.set_cons_zero, List.set_cons_succ, i64_w, i32_w]; rfl
        refine one_ (i := 2) (N := some 33) #[true, true, true, true, true, false, false, true, false, false, false, false, true, false, false] rfl rfl (one_of HT_.out (by kernel_rfl)) (by decide) (fun K hK => ?_)
        refine goes_ Try.func61 (by kernel_rfl) rfl #[.agg #[.int .i64 a0_2, .int .i64 a0_3]] (by rfl) rfl rfl zq6 ?_
        with_reducible refine (impl_minus.calls a0_2 a0_3 t1207 t1208 _ A37.out).mono ?_
        rintro e w84 ⟨rfl, hb⟩
        refine ⟨_, rfl, ?_⟩
        replace BK1197 := Aside0.mk (zbb BK1197 hb); replace BK1198 := Aside0.mk (zbb BK1198 hb); replace BK1199 := Aside0.mk (zbb BK1199 hb); replace BK1206 := Aside0.mk (zbb BK1206 hb); replace BK1214 := Aside0.mk (zbb BK1214 hb); replace HB := Aside0.mk (below_step (zb1 HB) hb)
        (try clear hb)
        (try clear hb2)
        (try clear hk)
        (try clear hi)
        refine hK.out _ _ ⟨zc BK1197 0, zc BK1197 1, zc BK1197 2, zc BK1197 3, zc BK1198 0, zc BK1198 1, zc BK1198 2, zc BK1198 3⟩ (fun hHeld => ?_)
        clear hK K
        refine norm_ (a' := ?_) ?_ ?_
        rotate_left
        ·
         show Act.put _ (some 33) _ = _
         simp only [Act.put, List.setIfInBounds_toArray, List.set_cons_zero, List.set_cons_succ, i64_w, i32_w]; rfl
        refine one_ (i := 5) (N := some 36) #[true, true, true, true, true, true, false, true, false, false, false, false, true, false, false] rfl rfl (one_of HT_.out (by kernel_rfl)) (by decide) (fun K hK => ?_)
        refine goes_ Try.func61 (by kernel_rfl) rfl #[.agg #[.int .i64 a0_0, .int .i64 a0_1]] (by rfl) rfl rfl zq6 ?_
        with_reducible refine (impl_minus.calls a0_0 a0_1 t1209 t1210 _ A38.out).mono ?_
        rintro e w85 ⟨rfl, hb⟩
        refine ⟨_, rfl, ?_⟩
        replace BK1197 := Aside0.mk (zbb BK1197 hb); replace BK1198 := Aside0.mk (zbb BK1198 hb); replace BK1199 := Aside0.mk (zbb BK1199 hb); replace BK1206 := Aside0.mk (zbb BK1206 hb); replace BK1214 := Aside0.mk (zbb BK1214 hb); replace HB := Aside0.mk (below_step (zb1 HB) hb)
        (try clear hb)
        (try clear hb2)
        (try clear hk)
        (try clear hi)
        refine hK.out _ _ ⟨zc BK1197 0, zc BK1197 1, zc BK1197 2, zc BK1197 3, zc BK1198 0, zc BK1198 1, zc BK1198 2, zc BK1198 3⟩ (fun hHeld => ?_)
        clear hK K
        refine norm_ (a' := ?_) ?_ ?_
        rotate_left
        ·
         show Act.put _ (some 36) _ = _
         simp only [Act.put, List.setIfInBounds_toArray, List.set_cons_zero, List.set_cons_succ, i64_w, i32_w]; rfl
        refine zp (i := 6) (N := some 37) #[true, true, true, true, true, true, true, true, false, false, false, false, true, false, false] (any_of HT_.out (by kernel_rfl)) ?_
        refine one_ (i := 8) (N := some 39) #[true, true, true, true, true, true, true, true, true, false, false, false, true, false, false] rfl rfl (one_of HT_.out (by kernel_rfl)) (by decide) (fun K hK => ?_)
        refine goes_ Try.func74 (by kernel_rfl) rfl #[.agg #[.int .i64 t1207, .int .i64 t1208, .int .i64 t1209, .int .i64 t1210], .agg #[.int .i64 a1_0, .int .i64 a1_1, .int .i64 a1_2, .int .i64 a1_3]] (by rfl) rfl rfl zq6 ?_
        with_reducible refine (impl_leastQuotient.calls kj2 t1207 t1208 t1209 t1210 a1_0 a1_1 a1_2 a1_3 t1211 t1212 false _ A39.out).mono ?_
        rintro e w86 ⟨rfl, hb⟩
        refine ⟨_, rfl, ?_⟩
        replace BK1197 := Aside0.mk (zbb BK1197 hb); replace BK1198 := Aside0.mk (zbb BK1198 hb); replace BK1199 := Aside0.mk (zbb BK1199 hb); replace BK1206 := Aside0.mk (zbb BK1206 hb); replace BK1214 := Aside0.mk (zbb BK1214 hb); replace HB := Aside0.mk (below_step (zb1 HB) hb)
        (try clear hb)
        (try clear hb2)
        (try clear hk)
        (try clear hi)
        refine hK.out _ _ ⟨zc BK1197 0, zc BK1197 1, zc BK1197 2, zc BK1197 3, zc BK1198 0, zc BK1198 1, zc BK1198 2, zc BK1198 3⟩ (fun hHeld => ?_)
        clear hK K
        refine norm_ (a' := ?_) ?_ ?_
        rotate_left
        ·
         show Act.put _ (some 39) _ = _
         simp only [Act.put, List.setIfInBounds_toArray, List.set_cons_zero, List.set_cons_succ, i64_w, i32_w]; rfl
        refine zp (i := 9) (N := some 30) #[true, true, true, true, true, true, true, true, true, true, false, false, true, false, false] (any_of HT_.out (by kernel_rfl)) ?_
        refine zp (i := 10) (N := some 40) #[true, true, true, true, true, true, true, true, true, true, true, false, true, false, false] (any_of HT_.out (by kernel_rfl)) ?_
        refine zp (i := 11) (N := some 41) #[true, true, true, true, true, true, true, true, true, true, true, true, true, false, false] (any_of HT_.out (by kernel_rfl)) ?_
        exact norm_ (by simp only [putAll, Act.put, List.setIfInBounds_toArray, List.set_cons_zero, List.set_cons_succ]) (hCont (gb1214) _ ⟨hHeld, (zq1 BK1197), (zq1 BK1198), (zq1 BK1199), (zq1 BK1206), (zq1 BK1214), GW1214.out, GE1214.out, NB1197_1214.out, NB1214_1197.out, NB1198_1214.out, NB1214_1198.out, NB1199_1214.out, NB1214_1199.out, NB1206_1214.out, NB1214_1206.out, (zb1 HB)⟩)
      rintro gb1214 w87 ⟨hS_, h0_, h1_, h2_, h3_, h4_, h5_, h6_, h7_, h8_, h9_, h10_, h11_, h12_, h13_, h14_, h15_⟩
      have BK1214 : Aside0 (w87.heap[gb1214]? = some (.cells #[.int .i64 0, .int .i64 0] 27 (0, 0))) := ⟨h4_⟩
      have GW1214 : Aside0 (w.heap.size ≤ gb1214) := ⟨h5_⟩
      have GE1214 : Aside0 (w.heap.size ≤ gb1214) := ⟨h6_⟩
      have NB1197_1214 : Aside0 (gb1197 ≠ gb1214) := ⟨h7_⟩
      have NB1214_1197 : Aside0 (gb1214 ≠ gb1197) := ⟨h8_⟩
      have NB1198_1214 : Aside0 (gb1198 ≠ gb1214) := ⟨h9_⟩
      have NB1214_1198 : Aside0 (gb1214 ≠ gb1198) := ⟨h10_⟩
      have NB1199_1214 : Aside0 (gb1199 ≠ gb1214) := ⟨h11_⟩
      have NB1214_1199 : Aside0 (gb1214 ≠ gb1199) := ⟨h12_⟩
      have NB1206_1214 : Aside0 (gb1206 ≠ gb1214) := ⟨h13_⟩
      have NB1214_1206 : Aside0 (gb1214 ≠ gb1206) := ⟨h14_⟩
      replace BK1197 : Aside0 (w87.heap[gb1197]? = some (.cells #[.int .i64 a0_0, .int .i64 a0_1, .int .i64 a0_2, .int .i64 a0_3] 29 (0, 0))) := ⟨h0_⟩; replace BK1198 : Aside0 (w87.heap[gb1198]? = some (.cells #[.int .i64 a1_0, .int .i64 a1_1, .int .i64 a1_2, .int .i64 a1_3] 29 (0, 0))) := ⟨h1_⟩; replace BK1199 : Aside0 (w87.heap[gb1199]? = some (.cells #[.int .i64 0, .int .i64 0, .int .i64 0, .int .i64 0] 29 (0, 0))) := ⟨h2_⟩; replace BK1206 : Aside0 (w87.heap[gb1206]? = some (.cells #[.int .i64 t1203, .int .i64 t1204] 27 (0, 0))) := ⟨h3_⟩; replace HB : Aside0 (Below w.heap.size w w87) := ⟨h15_⟩
      clear h0_ h10_ h11_ h12_ h13_ h14_ h15_ h1_ h2_ h3_ h4_ h5_ h6_ h7_ h8_ h9_
      have hHeld : w87.cell? ⟨gb1197, 0, none⟩ = some (.int .i64 a0_0) ∧ w87.cell? ⟨gb1197, 1, none⟩ = some (.int .i64 a0_1) ∧ w87.cell? ⟨gb1197, 2, none⟩ = some (.int .i64 a0_2) ∧ w87.cell? ⟨gb1197, 3, none⟩ = some (.int .i64 a0_3) ∧ w87.cell? ⟨gb1198, 0, none⟩ = some (.int .i64 a1_0) ∧ w87.cell? ⟨gb1198, 1, none⟩ = some (.int .i64 a1_1) ∧ w87.cell? ⟨gb1198, 2, none⟩ = some (.int .i64 a1_2) ∧ w87.cell? ⟨gb1198, 3, none⟩ = some (.int .i64 a1_3) := hS_
      refine norm_ (a' := ?_) ?_ ?_
      rotate_left
      ·
       simp only [putAll, Act.put, List.setIfInBounds_toArray, List.set_cons_zero, List.set_cons_succ]
       rfl
      refine one_ (i := 13) (N := none) #[true, true, true, true, true, true, true, true, true, true, true, true, true, true, false] rfl rfl (one_of HT_.out (by kernel_rfl)) (by decide) (fun K hK => ?_)
      have hs88 : w87.cell? ⟨gb1214, 0, none⟩ = some (.int .i64 0) := zc BK1214 0
      have hfs88 := blk_frozen BK1214.out 0
      have hns88_0 := NB1197_1214.out
      have hns88_1 := NB1198_1214.out
      have hns88_2 := NB1199_1214.out
      have hns88_3 := NB1206_1214.out
      have hms88_0 := NB1214_1197.out
      have hms88_1 := NB1214_1198.out
      have hms88_2 := NB1214_1199.out
      have hms88_3 := NB1214_1206.out
      have hs89 : w87.cell? ⟨gb1214, 1, none⟩ = some (.int .i64 0) := zc BK1214 1
      have hfs89 := blk_frozen BK1214.out 1
      have hns89_0 := NB1197_1214.out
      have hns89_1 := NB1198_1214.out
      have hns89_2 := NB1199_1214.out
      have hns89_3 := NB1206_1214.out
      have hms89_0 := NB1214_1197.out
      have hms89_1 := NB1214_1198.out
      have hms89_2 := NB1214_1199.out
      have hms89_3 := NB1214_1206.out
      refine skip_ (w1 := ?_) (by rfl) rfl ?_ ?_
      rotate_left
      ·
       go_simp
       rfl
      refine hK.out _ _ ⟨((cell_far (p := ⟨gb1214, _, none⟩) NB1197_1214.out _).trans (((cell_far (p := ⟨gb1214, _, none⟩) NB1197_1214.out _).trans (hHeld.1)))), ((cell_far (p := ⟨gb1214, _, none⟩) NB1197_1214.out _).trans (((cell_far (p := ⟨gb1214, _, none⟩) NB1197_1214.out _).trans (hHeld.2.1)))), ((cell_far (p := ⟨gb1214, _, none⟩) NB1197_1214.out _).trans (((cell_far (p := ⟨gb1214, _, none⟩) NB1197_1214.out _).trans (hHeld.2.2.1)))), ((cell_far (p := ⟨gb1214, _, none⟩) NB1197_1214.out _).trans (((cell_far (p := ⟨gb1214, _, none⟩) NB1197_1214.out _).trans (hHeld.2.2.2.1)))), ((cell_far (p := ⟨gb1214, _, none⟩) NB1198_1214.out _).trans (((cell_far (p := ⟨gb1214, _, none⟩) NB1198_1214.out _).trans (hHeld.2.2.2.2.1)))), ((cell_far (p := ⟨gb1214, _, none⟩) NB1198_1214.out _).trans (((cell_far (p := ⟨gb1214, _, none⟩) NB1198_1214.out _).trans (hHeld.2.2.2.2.2.1)))), ((cell_far (p := ⟨gb1214, _, none⟩) NB1198_1214.out _).trans (((cell_far (p := ⟨gb1214, _, none⟩) NB1198_1214.out _).trans (hHeld.2.2.2.2.2.2.1)))), ((cell_far (p := ⟨gb1214, _, none⟩) NB1198_1214.out _).trans (((cell_far (p := ⟨gb1214, _, none⟩) NB1198_1214.out _).trans (hHeld.2.2.2.2.2.2.2))))⟩ (fun hHeld => ?_)
      clear hK K
      refine zp (i := 14) (N := some 9) #[true, true, true, true, true, true, true, true, true, true, true, true, true, true, true] (any_of HT_.out (by kernel_rfl)) ?_
      refine done_ (done_of HT_.out (by kernel_rfl)) ?_
      have hnb90 := NB1199_1214.out
      have hnc90 := NB1214_1199.out
      have hcz91_0 : w87.cell? ⟨gb1199, 0, none⟩ = some (.int .i64 0) := zc BK1199 0
      have hcz91_1 : w87.cell? ⟨gb1199, 1, none⟩ = some (.int .i64 0) := zc BK1199 1
      have hcz91_2 : w87.cell? ⟨gb1199, 2, none⟩ = some (.int .i64 0) := zc BK1199 2
      have hcz91_3 : w87.cell? ⟨gb1199, 3, none⟩ = some (.int .i64 0) := zc BK1199 3
      have hfz91_0 := blk_frozen BK1199.out 0
      have hfz91_1 := blk_frozen BK1199.out 1
      have hfz91_2 := blk_frozen BK1199.out 2
      have hfz91_3 := blk_frozen BK1199.out 3
      try go_wp2
      refine bodyPost_ret (results_ct rfl _ _ gb1199 29 #[.int .i64 0, .int .i64 0, .int .i64 0, .int .i64 0] (0, 0) _ rfl (by (with_reducible repeat (first | refine blk_drewN ?_ _ | refine blk_drew ?_ | refine blk_alloc ?_ _)); refine blk_put (cs := #[.int .i64 0, .int .i64 0, .int .i64 0, .int .i64 0]) ?_ 3 _ rfl; (with_reducible repeat (first | refine blk_drewN ?_ _ | refine blk_drew ?_ | refine blk_alloc ?_ _)); refine blk_put (cs := #[.int .i64 0, .int .i64 0, .int .i64 0, .int .i64 0]) ?_ 2 _ rfl; (with_reducible repeat (first | refine blk_drewN ?_ _ | refine blk_drew ?_ | refine blk_alloc ?_ _)); refine blk_put (cs := #[.int .i64 0, .int .i64 0, .int .i64 0, .int .i64 0]) ?_ 1 _ rfl; (with_reducible repeat (first | refine blk_drewN ?_ _ | refine blk_drew ?_ | refine blk_alloc ?_ _)); refine blk_put (cs := #[.int .i64 0, .int .i64 0, .int .i64 0, .int .i64 0]) ?_ 0 _ rfl; (with_reducible repeat (first | refine blk_drewN ?_ _ | refine blk_drew ?_ | refine blk_alloc ?_ _)); refine blk_far ?_ NB1199_1214.out _; (with_reducible repeat (first | refine blk_drewN ?_ _ | refine blk_drew ?_ | refine blk_alloc ?_ _)); refine blk_far ?_ NB1199_1214.out _; (with_reducible repeat (first | refine blk_drewN ?_ _ | refine blk_drew ?_ | refine blk_alloc ?_ _)); exact BK1199.out) Try.underlying29 rfl (by kernel_rfl)) rfl ?_
      exact ⟨by first | rfl | (simp [errW_none, errW_some] <;> rfl) | (simp [*, errW_none, errW_some] <;> rfl), (zb1 HB)⟩
    ·
     replace c40 := Bool.eq_false_iff.mpr c40
     subst c40
     have H1 : (some (0, 0, 0, 0, false)) = some (r1, r2, r3, r4, r5) := by rw [if_neg (show ¬ (false = true) by decide)] at H; exact H
     clear H
     have H := H1
     clear H1
     simp only [Option.some.injEq, Prod.mk.injEq] at H
     obtain ⟨rfl, rfl, rfl, rfl, rfl⟩ := H
     have hnb92 := NB1197_1198.out
     have hnc92 := NB1198_1197.out
     have hnb93 := NB1197_1199.out
     have hnc93 := NB1199_1197.out
     have hcz94_0 : wc.cell? ⟨gb1197, 0, none⟩ = some (.int .i64 a0_0) := zc BK1197 0
     have hcz94_1 : wc.cell? ⟨gb1197, 1, none⟩ = some (.int .i64 a0_1) := zc BK1197 1
     have hcz94_2 : wc.cell? ⟨gb1197, 2, none⟩ = some (.int .i64 a0_2) := zc BK1197 2
     have hcz94_3 : wc.cell? ⟨gb1197, 3, none⟩ = some (.int .i64 a0_3) := zc BK1197 3
     have hfz94_0 := blk_frozen BK1197.out 0
     have hfz94_1 := blk_frozen BK1197.out 1
     have hfz94_2 := blk_frozen BK1197.out 2
     have hfz94_3 := blk_frozen BK1197.out 3
     have hnb95 := NB1198_1199.out
     have hnc95 := NB1199_1198.out
     have hcz96_0 : wc.cell? ⟨gb1198, 0, none⟩ = some (.int .i64 a1_0) := zc BK1198 0
     have hcz96_1 : wc.cell? ⟨gb1198, 1, none⟩ = some (.int .i64 a1_1) := zc BK1198 1
     have hcz96_2 : wc.cell? ⟨gb1198, 2, none⟩ = some (.int .i64 a1_2) := zc BK1198 2
     have hcz96_3 : wc.cell? ⟨gb1198, 3, none⟩ = some (.int .i64 a1_3) := zc BK1198 3
     have hfz96_0 := blk_frozen BK1198.out 0
     have hfz96_1 := blk_frozen BK1198.out 1
     have hfz96_2 := blk_frozen BK1198.out 2
     have hfz96_3 := blk_frozen BK1198.out 3
     try go_wp2_with (first | ((with_reducible refine gate_callee (f := 74) rfl ?_); refine goesL_ (some 27) rfl rfl Try.func74 (by kernel_rfl) rfl #[.agg #[.int .i64 a0_0, .int .i64 a0_1, .int .i64 a0_2, .int .i64 a0_3], .agg #[.int .i64 a1_0, .int .i64 a1_1, .int .i64 a1_2, .int .i64 a1_3]] rfl zq6 ?_; (with_reducible refine (impl_leastQuotient.calls kj2 a0_0 a0_1 a0_2 a0_3 a1_0 a1_1 a1_2 a1_3 t1203 t1204 false _ A36.out).mono ?_); rintro e w97 ⟨rfl, hb⟩; refine ⟨_, rfl, ?_⟩; replace BK1197 := Aside0.mk (zbb BK1197 hb); replace BK1198 := Aside0.mk (zbb BK1198 hb); replace BK1199 := Aside0.mk (zbb BK1199 hb); replace HB := Aside0.mk (below_step (zb1 HB) hb); (try clear hb); (try clear hb2); (try clear hk); (try clear hi)) | ((with_reducible refine gate_dst (N := 6) rfl ?_); refine zbe (N := 6) (cs := #[.int .i64 0, .int .i64 0]) (t := 27) ?_; intro gb1206 hg w98 hbox hb; have BK1206 := Aside0.mk (hbox); have GW1206 := Aside0.mk (zge (zb1 HB) hg); have GE1206 := GW1206; have NB1197_1206 := Aside0.mk (zlt BK1197 hg); have NB1206_1197 := Aside0.mk (zgt BK1197 hg); have NB1198_1206 := Aside0.mk (zlt BK1198 hg); have NB1206_1198 := Aside0.mk (zgt BK1198 hg); have NB1199_1206 := Aside0.mk (zlt BK1199 hg); have NB1206_1199 := Aside0.mk (zgt BK1199 hg); replace BK1197 := Aside0.mk (zbb BK1197 hb); replace BK1198 := Aside0.mk (zbb BK1198 hb); replace BK1199 := Aside0.mk (zbb BK1199 hb); replace HB := Aside0.mk (below_step (zb1 HB) hb); clear hb hbox hg; have hnb99 := NB1206_1197.out; have hnc99 := NB1197_1206.out; have hnb100 := NB1206_1198.out; have hnc100 := NB1198_1206.out; have hnb101 := NB1206_1199.out; have hnc101 := NB1199_1206.out; have hcz102_0 : w98.cell? ⟨gb1206, 0, none⟩ = some (.int .i64 0) := zc BK1206 0; have hcz102_1 : w98.cell? ⟨gb1206, 1, none⟩ = some (.int .i64 0) := zc BK1206 1; have hfz102_0 := blk_frozen BK1206.out 0; have hfz102_1 := blk_frozen BK1206.out 1))
     have n0_ : Aside0 (((w98.setCell ⟨gb1206, 0, none⟩ (.int .i64 t1203)).setCell ⟨gb1206, 1, none⟩ (.int .i64 t1204)).heap[gb1197]? = some (.cells #[.int .i64 a0_0, .int .i64 a0_1, .int .i64 a0_2, .int .i64 a0_3] 29 (0, 0))) := ⟨zq5 BK1197⟩
     have n1_ : Aside0 (((w98.setCell ⟨gb1206, 0, none⟩ (.int .i64 t1203)).setCell ⟨gb1206, 1, none⟩ (.int .i64 t1204)).heap[gb1198]? = some (.cells #[.int .i64 a1_0, .int .i64 a1_1, .int .i64 a1_2, .int .i64 a1_3] 29 (0, 0))) := ⟨zq5 BK1198⟩
     have n2_ : Aside0 (((w98.setCell ⟨gb1206, 0, none⟩ (.int .i64 t1203)).setCell ⟨gb1206, 1, none⟩ (.int .i64 t1204)).heap[gb1199]? = some (.cells #[.int .i64 0, .int .i64 0, .int .i64 0, .int .i64 0] 29 (0, 0))) := ⟨zq5 BK1199⟩
     have n3_ : Aside0 (((w98.setCell ⟨gb1206, 0, none⟩ (.int .i64 t1203)).setCell ⟨gb1206, 1, none⟩ (.int .i64 t1204)).heap[gb1206]? = some (.cells #[.int .i64 t1203, .int .i64 t1204] 27 (0, 0))) := ⟨by (with_reducible repeat (first | refine blk_drewN ?_ _ | refine blk_drew ?_ | refine blk_alloc ?_ _)); refine blk_put (cs := #[.int .i64 t1203, .int .i64 0]) ?_ 1 _ rfl; (with_reducible repeat (first | refine blk_drewN ?_ _ | refine blk_drew ?_ | refine blk_alloc ?_ _)); refine blk_put (cs := #[.int .i64 0, .int .i64 0]) ?_ 0 _ rfl; (with_reducible repeat (first | refine blk_drewN ?_ _ | refine blk_drew ?_ | refine blk_alloc ?_ _)); exact BK1206.out⟩
     have n4_ : Aside0 (Below w.heap.size w ((w98.setCell ⟨gb1206, 0, none⟩ (.int .i64 t1203)).setCell ⟨gb1206, 1, none⟩ (.int .i64 t1204))) := ⟨(zb1 HB)⟩
     (try clear BK1197)
     (try clear BK1198)
     (try clear BK1199)
     (try clear BK1206)
     (try clear HB)
     generalize ((w98.setCell ⟨gb1206, 0, none⟩ (.int .i64 t1203)).setCell ⟨gb1206, 1, none⟩ (.int .i64 t1204)) = w103 at n0_ n1_ n2_ n3_ n4_ ⊢
     have BK1197 := n0_; have BK1198 := n1_; have BK1199 := n2_; have BK1206 := n3_; have HB := n4_
     clear n0_ n1_ n2_ n3_ n4_
     replace BK1197 := Aside0.mk (blk_drew BK1197.out); replace BK1198 := Aside0.mk (blk_drew BK1198.out); replace BK1199 := Aside0.mk (blk_drew BK1199.out); replace BK1206 := Aside0.mk (blk_drew BK1206.out); replace HB := Aside0.mk (below_drew1 HB.out)
     refine start_ (n := 15) (S := fun w' => w'.cell? ⟨gb1197, 0, none⟩ = some (.int .i64 a0_0) ∧ w'.cell? ⟨gb1197, 1, none⟩ = some (.int .i64 a0_1) ∧ w'.cell? ⟨gb1197, 2, none⟩ = some (.int .i64 a0_2) ∧ w'.cell? ⟨gb1197, 3, none⟩ = some (.int .i64 a0_3) ∧ w'.cell? ⟨gb1198, 0, none⟩ = some (.int .i64 a1_0) ∧ w'.cell? ⟨gb1198, 1, none⟩ = some (.int .i64 a1_1) ∧ w'.cell? ⟨gb1198, 2, none⟩ = some (.int .i64 a1_2) ∧ w'.cell? ⟨gb1198, 3, none⟩ = some (.int .i64 a1_3)) (ds := []) #[false, false, false, false, false, false, false, false, false, false, false, false, false, false, false] (by kernel_rfl) rfl rfl ⟨zc BK1197 0, zc BK1197 1, zc BK1197 2, zc BK1197 3, zc BK1198 0, zc BK1198 1, zc BK1198 2, zc BK1198 3⟩ (fun hHeld => ?_); refine with_tabW impl_DivideIntervals.tab4 impl_DivideIntervals.bits4 (fun HT_ HW_ => ?_)
     generalize w103.drew = w104 at BK1197 BK1198 BK1199 BK1206 HB hHeld ⊢
     refine zp (i := 0) (N := some 31) #[true, false, false, false, false, false, false, false, false, false, false, false, false, false, false] (any_of HT_.out (by kernel_rfl)) ?_
     refine zp (i := 3) (N := some 34) #[true, false, false, true, false, false, false, false, false, false, false, false, false, false, false] (any_of HT_.out (by kernel_rfl)) ?_
     refine take_ (i := 1) (N := some 32) (v := ?_) (a' := ?_) #[true, true, false, true, false, false, false, false, false, false, false, false, false, false, false] rfl rfl (take_ofW HT_.out HW_.out (by kernel_rfl)) (fun _ _ _ h => h) (Or.inl ⟨by rfl, ?_⟩) hHeld ?_ ?_
     rotate_left
     ·
      rintro w' ⟨s0, s1, s2, s3, s4, s5, s6, s7⟩
      go_simp
      with_reducible rfl
     rotate_left
     ·
      simp only [Act.put, List.setIfInBounds_toArray, List.set_cons_zero, List.set_cons_succ, i64_w, i32_w]
      rfl
     refine take_ (i := 4) (N := some 35) (v := ?_) (a' := ?_) #[true, true, false, true, true, false, false, false, false, false, false, false, false, false, false] rfl rfl (take_ofW HT_.out HW_.out (by kernel_rfl)) (fun _ _ _ h => h) (Or.inl ⟨by rfl, ?_⟩) hHeld ?_ ?_
     rotate_left
     ·
      rintro w' ⟨s0, s1, s2, s3, s4, s5, s6, s7⟩
      go_simp
      with_reducible rfl
     rotate_left
     ·
      simp only [Act.put, List.setIfInBounds_toArray, List.set_cons_zero, List.set_cons_succ, i64_w, i32_w]
      rfl
     refine take_ (i := 7) (N := some 38) (v := ?_) (a' := ?_) #[true, true, false, true, true, false, false, true, false, false, false, false, false, false, false] rfl rfl (take_ofW HT_.out HW_.out (by kernel_rfl)) (fun _ _ _ h => h) (Or.inl ⟨by rfl, ?_⟩) hHeld ?_ ?_
     rotate_left
     ·
      rintro w' ⟨s0, s1, s2, s3, s4, s5, s6, s7⟩
      go_simp
      with_reducible rfl
     rotate_left
     ·
      simp only [Act.put, List.setIfInBounds_toArray, List.set_cons_zero, List.set_cons_succ, i64_w, i32_w]
      rfl
     refine join_ (σ := Nat) 2 #[true, true, true, true, true, true, true, true, true, true, true, true, true, false, false] (fun s_ => [(33, .agg #[.int .i64 t1207, .int .i64 t1208]), (36, .agg #[.int .i64 t1209, .int .i64 t1210]), (39, .tuple #[.agg #[.int .i64 t1211, .int .i64 t1212], .bool t1213]), (8, .pointer (some ⟨s_, 0, none⟩)), (37, .agg #[.int .i64 t1207, .int .i64 t1208, .int .i64 t1209, .int .i64 t1210]), (30, .tuple #[.agg #[.int .i64 t1211, .int .i64 t1212], .bool t1213]), (40, .agg #[.int .i64 t1211, .int .i64 t1212]), (41, .bool t1213)]) (fun s_ w' => (w'.cell? ⟨gb1197, 0, none⟩ = some (.int .i64 a0_0) ∧ w'.cell? ⟨gb1197, 1, none⟩ = some (.int .i64 a0_1) ∧ w'.cell? ⟨gb1197, 2, none⟩ = some (.int .i64 a0_2) ∧ w'.cell? ⟨gb1197, 3, none⟩ = some (.int .i64 a0_3) ∧ w'.cell? ⟨gb1198, 0, none⟩ = some (.int .i64 a1_0) ∧ w'.cell? ⟨gb1198, 1, none⟩ = some (.int .i64 a1_1) ∧ w'.cell? ⟨gb1198, 2, none⟩ = some (.int .i64 a1_2) ∧ w'.cell? ⟨gb1198, 3, none⟩ = some (.int .i64 a1_3)) ∧ (w'.heap[gb1197]? = some (.cells #[.int .i64 a0_0, .int .i64 a0_1, .int .i64 a0_2, .int .i64 a0_3] 29 (0, 0))) ∧ (w'.heap[gb1198]? = some (.cells #[.int .i64 a1_0, .int .i64 a1_1, .int .i64 a1_2, .int .i64 a1_3] 29 (0, 0))) ∧ (w'.heap[gb1199]? = some (.cells #[.int .i64 0, .int .i64 0, .int .i64 0, .int .i64 0] 29 (0, 0))) ∧ (w'.heap[gb1206]? = some (.cells #[.int .i64 t1203, .int .i64 t1204] 27 (0, 0))) ∧ (w'.heap[s_]? = some (.cells #[.int .i64 0, .int .i64 0] 27 (0, 0))) ∧ (w.heap.size ≤ s_) ∧ (w.heap.size ≤ s_) ∧ (gb1197 ≠ s_) ∧ (s_ ≠ gb1197) ∧ (gb1198 ≠ s_) ∧ (s_ ≠ gb1198) ∧ (gb1199 ≠ s_) ∧ (s_ ≠ gb1199) ∧ (gb1206 ≠ s_) ∧ (s_ ≠ gb1206) ∧ (Below w.heap.size w w')) ?_ ?_
     rotate_left
     ·
      intro hCont
      refine two_ (i := 2) (j := 12) (Ni := some 33) (Nj := some 8) #[true, true, true, true, true, false, false, true, false, false, false, false, false, false, false] #[true, true, false, true, true, false, false, true, false, false, false, false, true, false, false] rfl rfl rfl rfl (two_of HT_.out (by kernel_rfl)) (by decide) (by decide) (fun K hK => ?_) (fun K hK => ?_)
      ·
       refine goes_ Try.func61 (by kernel_rfl) rfl #[.agg #[.int .i64 a0_2, .int .i64 a0_3]] (by rfl) rfl rfl zq6 ?_
       with_reducible refine (impl_minus.calls a0_2 a0_3 t1207 t1208 _ A37.out).mono ?_
       rintro e w105 ⟨rfl, hb⟩
       refine ⟨_, rfl, ?_⟩
       replace BK1197 := Aside0.mk (zbb BK1197 hb); replace BK1198 := Aside0.mk (zbb BK1198 hb); replace BK1199 := Aside0.mk (zbb BK1199 hb); replace BK1206 := Aside0.mk (zbb BK1206 hb); replace HB := Aside0.mk (below_step (zb1 HB) hb)
       (try clear hb)
       (try clear hb2)
       (try clear hk)
       (try clear hi)
       refine hK.out _ _ ⟨zc BK1197 0, zc BK1197 1, zc BK1197 2, zc BK1197 3, zc BK1198 0, zc BK1198 1, zc BK1198 2, zc BK1198 3⟩ (fun hHeld => ?_)
       clear hK K
       refine norm_ (a' := ?_) ?_ ?_
       rotate_left
       ·
        show Act.put _ (some 33) _ = _
        simp only [Act.put, List.setIfInBounds_toArray, List.set_cons_zero, List.set_cons_succ, i64_w, i32_w]; rfl
       refine two_ (i := 5) (j := 12) (Ni := some 36) (Nj := some 8) #[true, true, true, true, true, true, false, true, false, false, false, false, false, false, false] #[true, true, true, true, true, false, false, true, false, false, false, false, true, false, false] rfl rfl rfl rfl (two_of HT_.out (by kernel_rfl)) (by decide) (by decide) (fun K hK => ?_) (fun K hK => ?_)
       ·
        refine goes_ Try.func61 (by kernel_rfl) rfl #[.agg #[.int .i64 a0_0, .int .i64 a0_1]] (by rfl) rfl rfl zq6 ?_
        with_reducible refine (impl_minus.calls a0_0 a0_1 t1209 t1210 _ A38.out).mono ?_
        rintro e w106 ⟨rfl, hb⟩
        refine ⟨_, rfl, ?_⟩
        replace BK1197 := Aside0.mk (zbb BK1197 hb); replace BK1198 := Aside0.mk (zbb BK1198 hb); replace BK1199 := Aside0.mk (zbb BK1199 hb); replace BK1206 := Aside0.mk (zbb BK1206 hb); replace HB := Aside0.mk (below_step (zb1 HB) hb)
        (try clear hb)
        (try clear hb2)
        (try clear hk)
        (try clear hi)
        refine hK.out _ _ ⟨zc BK1197 0, zc BK1197 1, zc BK1197 2, zc BK1197 3, zc BK1198 0, zc BK1198 1, zc BK1198 2, zc BK1198 3⟩ (fun hHeld => ?_)
        clear hK K
        refine norm_ (a' := ?_) ?_ ?_
        rotate_left
        ·
         show Act.put _ (some 36) _ = _
         simp only [Act.put, List.setIfInBounds_toArray, List.set_cons_zero, List.set_cons_succ, i64_w, i32_w]; rfl
        refine zp (i := 6) (N := some 37) #[true, true, true, true, true, true, true, true, false, false, false, false, false, false, false] (any_of HT_.out (by kernel_rfl)) ?_
        refine two_ (i := 8) (j := 12) (Ni := some 39) (Nj := some 8) #[true, true, true, true, true, true, true, true, true, false, false, false, false, false, false] #[true, true, true, true, true, true, true, true, false, false, false, false, true, false, false] rfl rfl rfl rfl (two_of HT_.out (by kernel_rfl)) (by decide) (by decide) (fun K hK => ?_) (fun K hK => ?_)
        ·
         refine goes_ Try.func74 (by kernel_rfl) rfl #[.agg #[.int .i64 t1207, .int .i64 t1208, .int .i64 t1209, .int .i64 t1210], .agg #[.int .i64 a1_0, .int .i64 a1_1, .int .i64 a1_2, .int .i64 a1_3]] (by rfl) rfl rfl zq6 ?_
         with_reducible refine (impl_leastQuotient.calls kj2 t1207 t1208 t1209 t1210 a1_0 a1_1 a1_2 a1_3 t1211 t1212 t1213 _ A39.out).mono ?_
         rintro e w107 ⟨rfl, hb⟩
         refine ⟨_, rfl, ?_⟩
         replace BK1197 := Aside0.mk (zbb BK1197 hb); replace BK1198 := Aside0.mk (zbb BK1198 hb); replace BK1199 := Aside0.mk (zbb BK1199 hb); replace BK1206 := Aside0.mk (zbb BK1206 hb); replace HB := Aside0.mk (below_step (zb1 HB) hb)
         (try clear hb)
         (try clear hb2)
         (try clear hk)
         (try clear hi)
         refine hK.out _ _ ⟨zc BK1197 0, zc BK1197 1, zc BK1197 2, zc BK1197 3, zc BK1198 0, zc BK1198 1, zc BK1198 2, zc BK1198 3⟩ (fun hHeld => ?_)
         clear hK K
         refine norm_ (a' := ?_) ?_ ?_
         rotate_left
         ·
          show Act.put _ (some 39) _ = _
          simp only [Act.put, List.setIfInBounds_toArray, List.set_cons_zero, List.set_cons_succ, i64_w, i32_w]; rfl
         refine zp (i := 9) (N := some 30) #[true, true, true, true, true, true, true, true, true, true, false, false, false, false, false] (any_of HT_.out (by kernel_rfl)) ?_
         refine zp (i := 10) (N := some 40) #[true, true, true, true, true, true, true, true, true, true, true, false, false, false, false] (any_of HT_.out (by kernel_rfl)) ?_
         refine zp (i := 11) (N := some 41) #[true, true, true, true, true, true, true, true, true, true, true, true, false, false, false] (any_of HT_.out (by kernel_rfl)) ?_
         refine one_ (i := 12) (N := some 8) #[true, true, true, true, true, true, true, true, true, true, true, true, true, false, false] rfl rfl (one_of HT_.out (by kernel_rfl)) (by decide) (fun K hK => ?_)
         refine box_step ?hg (N := 8) ?hd (cs := #[.int .i64 0, .int .i64 0]) (t := 27) ?hr ?_; (case hd => rfl); (case hg => rfl); (case hr => first | (go_simp; done) | (go_simp; rfl))
         intro gb1214 hg w108 hbox hb
         have n0_ := Aside0.mk (zbb BK1197 hb)
         have n1_ := Aside0.mk (zbb BK1198 hb)
         have n2_ := Aside0.mk (zbb BK1199 hb)
         have n3_ := Aside0.mk (zbb BK1206 hb)
         have n4_ := Aside0.mk (below_step (zb1 HB) hb)
         have BK1214 := Aside0.mk (hbox)
         have GW1214 := Aside0.mk (zge (zb1 HB) hg)
         have GE1214 := Aside0.mk (zge (zb1 HB) hg)
         have NB1197_1214 := Aside0.mk (zlt BK1197 hg)
         have NB1214_1197 := Aside0.mk (zgt BK1197 hg)
         have NB1198_1214 := Aside0.mk (zlt BK1198 hg)
         have NB1214_1198 := Aside0.mk (zgt BK1198 hg)
         have NB1199_1214 := Aside0.mk (zlt BK1199 hg)
         have NB1214_1199 := Aside0.mk (zgt BK1199 hg)
         have NB1206_1214 := Aside0.mk (zlt BK1206 hg)
         have NB1214_1206 := Aside0.mk (zgt BK1206 hg)
         clear BK1197 BK1198 BK1199 BK1206 HB
         have BK1197 := n0_; have BK1198 := n1_; have BK1199 := n2_; have BK1206 := n3_; have HB := n4_
         clear n0_ n1_ n2_ n3_ n4_ hb hbox hg
         refine hK.out _ _ ⟨zc BK1197 0, zc BK1197 1, zc BK1197 2, zc BK1197 3, zc BK1198 0, zc BK1198 1, zc BK1198 2, zc BK1198 3⟩ (fun hHeld => ?_)
         clear hK K
         refine norm_ (a' := ?_) ?_ ?_
         rotate_left
         ·
          show Act.put _ (some 8) _ = _
          simp only [Act.put, List.setIfInBounds_toArray, List.set_cons_zero, List.set_cons_succ, i64_w, i32_w]; rfl
         exact norm_ (by simp only [putAll, Act.put, List.setIfInBounds_toArray, List.set_cons_zero, List.set_cons_succ]) (hCont (gb1214) _ ⟨hHeld, (zq1 BK1197), (zq1 BK1198), (zq1 BK1199), (zq1 BK1206), (zq1 BK1214), GW1214.out, GE1214.out, NB1197_1214.out, NB1214_1197.out, NB1198_1214.out, NB1214_1198.out, NB1199_1214.out, NB1214_1199.out, NB1206_1214.out, NB1214_1206.out, (zb1 HB)⟩)
        ·
         refine box_step ?hg (N := 8) ?hd (cs := #[.int .i64 0, .int .i64 0]) (t := 27) ?hr ?_; (case hd => rfl); (case hg => rfl); (case hr => first | (go_simp; done) | (go_simp; rfl))
         intro gb1214 hg w107 hbox hb
         have n0_ := Aside0.mk (zbb BK1197 hb)
         have n1_ := Aside0.mk (zbb BK1198 hb)
         have n2_ := Aside0.mk (zbb BK1199 hb)
         have n3_ := Aside0.mk (zbb BK1206 hb)
         have n4_ := Aside0.mk (below_step (zb1 HB) hb)
         have BK1214 := Aside0.mk (hbox)
         have GW1214 := Aside0.mk (zge (zb1 HB) hg)
         have GE1214 := Aside0.mk (zge (zb1 HB) hg)
         have NB1197_1214 := Aside0.mk (zlt BK1197 hg)
         have NB1214_1197 := Aside0.mk (zgt BK1197 hg)
         have NB1198_1214 := Aside0.mk (zlt BK1198 hg)
         have NB1214_1198 := Aside0.mk (zgt BK1198 hg)
         have NB1199_1214 := Aside0.mk (zlt BK1199 hg)
         have NB1214_1199 := Aside0.mk (zgt BK1199 hg)
         have NB1206_1214 := Aside0.mk (zlt BK1206 hg)
         have NB1214_1206 := Aside0.mk (zgt BK1206 hg)
         clear BK1197 BK1198 BK1199 BK1206 HB
         have BK1197 := n0_; have BK1198 := n1_; have BK1199 := n2_; have BK1206 := n3_; have HB := n4_
         clear n0_ n1_ n2_ n3_ n4_ hb hbox hg
         refine hK.out _ _ ⟨zc BK1197 0, zc BK1197 1, zc BK1197 2, zc BK1197 3, zc BK1198 0, zc BK1198 1, zc BK1198 2, zc BK1198 3⟩ (fun hHeld => ?_)
         clear hK K
         refine norm_ (a' := ?_) ?_ ?_
         rotate_left
         ·
          show Act.put _ (some 8) _ = _
          simp only [Act.put, List.setIfInBounds_toArray, List.set_cons_zero, List.set_cons_succ, i64_w, i32_w]; rfl
         refine one_ (i := 8) (N := some 39) #[true, true, true, true, true, true, true, true, true, false, false, false, true, false, false] rfl rfl (one_of HT_.out (by kernel_rfl)) (by decide) (fun K hK => ?_)
         refine goes_ Try.func74 (by kernel_rfl) rfl #[.agg #[.int .i64 t1207, .int .i64 t1208, .int .i64 t1209, .int .i64 t1210], .agg #[.int .i64 a1_0, .int .i64 a1_1, .int .i64 a1_2, .int .i64 a1_3]] (by rfl) rfl rfl zq6 ?_
         with_reducible refine (impl_leastQuotient.calls kj2 t1207 t1208 t1209 t1210 a1_0 a1_1 a1_2 a1_3 t1211 t1212 t1213 _ A39.out).mono ?_
         rintro e w108 ⟨rfl, hb⟩
         refine ⟨_, rfl, ?_⟩
         replace BK1197 := Aside0.mk (zbb BK1197 hb); replace BK1198 := Aside0.mk (zbb BK1198 hb); replace BK1199 := Aside0.mk (zbb BK1199 hb); replace BK1206 := Aside0.mk (zbb BK1206 hb); replace BK1214 := Aside0.mk (zbb BK1214 hb); replace HB := Aside0.mk (below_step (zb1 HB) hb)
         (try clear hb)
         (try clear hb2)
         (try clear hk)
         (try clear hi)
         refine hK.out _ _ ⟨zc BK1197 0, zc BK1197 1, zc BK1197 2, zc BK1197 3, zc BK1198 0, zc BK1198 1, zc BK1198 2, zc BK1198 3⟩ (fun hHeld => ?_)
         clear hK K
         refine norm_ (a' := ?_) ?_ ?_
         rotate_left
         ·
          show Act.put _ (some 39) _ = _
          simp only [Act.put, List.setIfInBounds_toArray, List.set_cons_zero, List.set_cons_succ, i64_w, i32_w]; rfl
         refine zp (i := 9) (N := some 30) #[true, true, true, true, true, true, true, true, true, true, false, false, true, false, false] (any_of HT_.out (by kernel_rfl)) ?_
         refine zp (i := 10) (N := some 40) #[true, true, true, true, true, true, true, true, true, true, true, false, true, false, false] (any_of HT_.out (by kernel_rfl)) ?_
         refine zp (i := 11) (N := some 41) #[true, true, true, true, true, true, true, true, true, true, true, true, true, false, false] (any_of HT_.out (by kernel_rfl)) ?_
         exact norm_ (by simp only [putAll, Act.put, List.setIfInBounds_toArray, List.set_cons_zero, List.set_cons_succ]) (hCont (gb1214) _ ⟨hHeld, (zq1 BK1197), (zq1 BK1198), (zq1 BK1199), (zq1 BK1206), (zq1 BK1214), GW1214.out, GE1214.out, NB1197_1214.out, NB1214_1197.out, NB1198_1214.out, NB1214_1198.out, NB1199_1214.out, NB1214_1199.out, NB1206_1214.out, NB1214_1206.out, (zb1 HB)⟩)
       ·
        refine box_step ?hg (N := 8) ?hd (cs := #[.int .i64 0, .int .i64 0]) (t := 27) ?hr ?_; (case hd => rfl); (case hg => rfl); (case hr => first | (go_simp; done) | (go_simp; rfl))
        intro gb1214 hg w106 hbox hb
        have n0_ := Aside0.mk (zbb BK1197 hb)
        have n1_ := Aside0.mk (zbb BK1198 hb)
        have n2_ := Aside0.mk (zbb BK1199 hb)
        have n3_ := Aside0.mk (zbb BK1206 hb)
        have n4_ := Aside0.mk (below_step (zb1 HB) hb)
        have BK1214 := Aside0.mk (hbox)
        have GW1214 := Aside0.mk (zge (zb1 HB) hg)
        have GE1214 := Aside0.mk (zge (zb1 HB) hg)
        have NB1197_1214 := Aside0.mk (zlt BK1197 hg)
        have NB1214_1197 := Aside0.mk (zgt BK1197 hg)
        have NB1198_1214 := Aside0.mk (zlt BK1198 hg)
        have NB1214_1198 := Aside0.mk (zgt BK1198 hg)
        have NB1199_1214 := Aside0.mk (zlt BK1199 hg)
        have NB1214_1199 := Aside0.mk (zgt BK1199 hg)
        have NB1206_1214 := Aside0.mk (zlt BK1206 hg)
        have NB1214_1206 := Aside0.mk (zgt BK1206 hg)
        clear BK1197 BK1198 BK1199 BK1206 HB
        have BK1197 := n0_; have BK1198 := n1_; have BK1199 := n2_; have BK1206 := n3_; have HB := n4_
        clear n0_ n1_ n2_ n3_ n4_ hb hbox hg
        refine hK.out _ _ ⟨zc BK1197 0, zc BK1197 1, zc BK1197 2, zc BK1197 3, zc BK1198 0, zc BK1198 1, zc BK1198 2, zc BK1198 3⟩ (fun hHeld => ?_)
        clear hK K
        refine norm_ (a' := ?_) ?_ ?_
        rotate_left
        ·
         show Act.put _ (some 8) _ = _
         simp only [Act.put, List.setIfInBounds_toArray, List.set_cons_zero, List.set_cons_succ, i64_w, i32_w]; rfl
        refine one_ (i := 5) (N := some 36) #[true, true, true, true, true, true, false, true, false, false, false, false, true, false, false] rfl rfl (one_of HT_.out (by kernel_rfl)) (by decide) (fun K hK => ?_)
        refine goes_ Try.func61 (by kernel_rfl) rfl #[.agg #[.int .i64 a0_0, .int .i64 a0_1]] (by rfl) rfl rfl zq6 ?_
        with_reducible refine (impl_minus.calls a0_0 a0_1 t1209 t1210 _ A38.out).mono ?_
        rintro e w107 ⟨rfl, hb⟩
        refine ⟨_, rfl, ?_⟩
        replace BK1197 := Aside0.mk (zbb BK1197 hb); replace BK1198 := Aside0.mk (zbb BK1198 hb); replace BK1199 := Aside0.mk (zbb BK1199 hb); replace BK1206 := Aside0.mk (zbb BK1206 hb); replace BK1214 := Aside0.mk (zbb BK1214 hb); replace HB := Aside0.mk (below_step (zb1 HB) hb)
        (try clear hb)
        (try clear hb2)
        (try clear hk)
        (try clear hi)
        refine hK.out _ _ ⟨zc BK1197 0, zc BK1197 1, zc BK1197 2, zc BK1197 3, zc BK1198 0, zc BK1198 1, zc BK1198 2, zc BK1198 3⟩ (fun hHeld => ?_)
        clear hK K
        refine norm_ (a' := ?_) ?_ ?_
        rotate_left
        ·
         show Act.put _ (some 36) _ = _
         simp only [Act.put, List.setIfInBounds_toArray, List.set_cons_zero, List.set_cons_succ, i64_w, i32_w]; rfl
        refine zp (i := 6) (N := some 37) #[true, true, true, true, true, true, true, true, false, false, false, false, true, false, false] (any_of HT_.out (by kernel_rfl)) ?_
        refine one_ (i := 8) (N := some 39) #[true, true, true, true, true, true, true, true, true, false, false, false, true, false, false] rfl rfl (one_of HT_.out (by kernel_rfl)) (by decide) (fun K hK => ?_)
        refine goes_ Try.func74 (by kernel_rfl) rfl #[.agg #[.int .i64 t1207, .int .i64 t1208, .int .i64 t1209, .int .i64 t1210], .agg #[.int .i64 a1_0, .int .i64 a1_1, .int .i64 a1_2, .int .i64 a1_3]] (by rfl) rfl rfl zq6 ?_
        with_reducible refine (impl_leastQuotient.calls kj2 t1207 t1208 t1209 t1210 a1_0 a1_1 a1_2 a1_3 t1211 t1212 t1213 _ A39.out).mono ?_
        rintro e w108 ⟨rfl, hb⟩
        refine ⟨_, rfl, ?_⟩
        replace BK1197 := Aside0.mk (zbb BK1197 hb); replace BK1198 := Aside0.mk (zbb BK1198 hb); replace BK1199 := Aside0.mk (zbb BK1199 hb); replace BK1206 := Aside0.mk (zbb BK1206 hb); replace BK1214 := Aside0.mk (zbb BK1214 hb); replace HB := Aside0.mk (below_step (zb1 HB) hb)
        (try clear hb)
        (try clear hb2)
        (try clear hk)
        (try clear hi)
        refine hK.out _ _ ⟨zc BK1197 0, zc BK1197 1, zc BK1197 2, zc BK1197 3, zc BK1198 0, zc BK1198 1, zc BK1198 2, zc BK1198 3⟩ (fun hHeld => ?_)
        clear hK K
        refine norm_ (a' := ?_) ?_ ?_
        rotate_left
        ·
         show Act.put _ (some 39) _ = _
         simp only [Act.put, List.setIfInBounds_toArray, List.set_cons_zero, List.set_cons_succ, i64_w, i32_w]; rfl
        refine zp (i := 9) (N := some 30) #[true, true, true, true, true, true, true, true, true, true, false, false, true, false, false] (any_of HT_.out (by kernel_rfl)) ?_
        refine zp (i := 10) (N := some 40) #[true, true, true, true, true, true, true, true, true, true, true, false, true, false, false] (any_of HT_.out (by kernel_rfl)) ?_
        refine zp (i := 11) (N := some 41) #[true, true, true, true, true, true, true, true, true, true, true, true, true, false, false] (any_of HT_.out (by kernel_rfl)) ?_
        exact norm_ (by simp only [putAll, Act.put, List.setIfInBounds_toArray, List.set_cons_zero, List.set_cons_succ]) (hCont (gb1214) _ ⟨hHeld, (zq1 BK1197), (zq1 BK1198), (zq1 BK1199), (zq1 BK1206), (zq1 BK1214), GW1214.out, GE1214.out, NB1197_1214.out, NB1214_1197.out, NB1198_1214.out, NB1214_1198.out, NB1199_1214.out, NB1214_1199.out, NB1206_1214.out, NB1214_1206.out, (zb1 HB)⟩)
      ·
       refine box_step ?hg (N := 8) ?hd (cs := #[.int .i64 0, .int .i64 0]) (t := 27) ?hr ?_; (case hd => rfl); (case hg => rfl); (case hr => first | (go_simp; done) | (go_simp; rfl))
       intro gb1214 hg w105 hbox hb
       have n0_ := Aside0.mk (zbb BK1197 hb)
       have n1_ := Aside0.mk (zbb BK1198 hb)
       have n2_ := Aside0.mk (zbb BK1199 hb)
       have n3_ := Aside0.mk (zbb BK1206 hb)
       have n4_ := Aside0.mk (below_step (zb1 HB) hb)
       have BK1214 := Aside0.mk (hbox)
       have GW1214 := Aside0.mk (zge (zb1 HB) hg)
       have GE1214 := Aside0.mk (zge (zb1 HB) hg)
       have NB1197_1214 := Aside0.mk (zlt BK1197 hg)
       have NB1214_1197 := Aside0.mk (zgt BK1197 hg)
       have NB1198_1214 := Aside0.mk (zlt BK1198 hg)
       have NB1214_1198 := Aside0.mk (zgt BK1198 hg)
       have NB1199_1214 := Aside0.mk (zlt BK1199 hg)
       have NB1214_1199 := Aside0.mk (zgt BK1199 hg)
       have NB1206_1214 := Aside0.mk (zlt BK1206 hg)
       have NB1214_1206 := Aside0.mk (zgt BK1206 hg)
       clear BK1197 BK1198 BK1199 BK1206 HB
       have BK1197 := n0_; have BK1198 := n1_; have BK1199 := n2_; have BK1206 := n3_; have HB := n4_
       clear n0_ n1_ n2_ n3_ n4_ hb hbox hg
       refine hK.out _ _ ⟨zc BK1197 0, zc BK1197 1, zc BK1197 2, zc BK1197 3, zc BK1198 0, zc BK1198 1, zc BK1198 2, zc BK1198 3⟩ (fun hHeld => ?_)
       clear hK K
       refine norm_ (a' := ?_) ?_ ?_
       rotate_left
       ·
        show Act.put _ (some 8) _ = _
        simp only [Act.put, List.setIfInBounds_toArray, List.set_cons_zero, List.set_cons_succ, i64_w, i32_w]; rfl
       refine one_ (i := 2) (N := some 33) #[true, true, true, true, true, false, false, true, false, false, false, false, true, false, false] rfl rfl (one_of HT_.out (by kernel_rfl)) (by decide) (fun K hK => ?_)
       refine goes_ Try.func61 (by kernel_rfl) rfl #[.agg #[.int .i64 a0_2, .int .i64 a0_3]] (by rfl) rfl rfl zq6 ?_
       with_reducible refine (impl_minus.calls a0_2 a0_3 t1207 t1208 _ A37.out).mono ?_
       rintro e w106 ⟨rfl, hb⟩
       refine ⟨_, rfl, ?_⟩
       replace BK1197 := Aside0.mk (zbb BK1197 hb); replace BK1198 := Aside0.mk (zbb BK1198 hb); replace BK1199 := Aside0.mk (zbb BK1199 hb); replace BK1206 := Aside0.mk (zbb BK1206 hb); replace BK1214 := Aside0.mk (zbb BK1214 hb); replace HB := Aside0.mk (below_step (zb1 HB) hb)
       (try clear hb)
       (try clear hb2)
       (try clear hk)
       (try clear hi)
       refine hK.out _ _ ⟨zc BK1197 0, zc BK1197 1, zc BK1197 2, zc BK1197 3, zc BK1198 0, zc BK1198 1, zc BK1198 2, zc BK1198 3⟩ (fun hHeld => ?_)
       clear hK K
       refine norm_ (a' := ?_) ?_ ?_
       rotate_left
       ·
        show Act.put _ (some 33) _ = _
        simp only [Act.put, List.setIfInBounds_toArray, List.set_cons_zero, List.set_cons_succ, i64_w, i32_w]; rfl
       refine one_ (i := 5) (N := some 36) #[true, true, true, true, true, true, false, true, false, false, false, false, true, false, false] rfl rfl (one_of HT_.out (by kernel_rfl)) (by decide) (fun K hK => ?_)
       refine goes_ Try.func61 (by kernel_rfl) rfl #[.agg #[.int .i64 a0_0, .int .i64 a0_1]] (by rfl) rfl rfl zq6 ?_
       with_reducible refine (impl_minus.calls a0_0 a0_1 t1209 t1210 _ A38.out).mono ?_
       rintro e w107 ⟨rfl, hb⟩
       refine ⟨_, rfl, ?_⟩
       replace BK1197 := Aside0.mk (zbb BK1197 hb); replace BK1198 := Aside0.mk (zbb BK1198 hb); replace BK1199 := Aside0.mk (zbb BK1199 hb); replace BK1206 := Aside0.mk (zbb BK1206 hb); replace BK1214 := Aside0.mk (zbb BK1214 hb); replace HB := Aside0.mk (below_step (zb1 HB) hb)
       (try clear hb)
       (try clear hb2)
       (try clear hk)
       (try clear hi)
       refine hK.out _ _ ⟨zc BK1197 0, zc BK1197 1, zc BK1197 2, zc BK1197 3, zc BK1198 0, zc BK1198 1, zc BK1198 2, zc BK1198 3⟩ (fun hHeld => ?_)
       clear hK K
       refine norm_ (a' := ?_) ?_ ?_
       rotate_left
       ·
        show Act.put _ (some 36) _ = _
        simp only [Act.put, List.setIfInBounds_toArray, List.set_cons_zero, List.set_cons_succ, i64_w, i32_w]; rfl
       refine zp (i := 6) (N := some 37) #[true, true, true, true, true, true, true, true, false, false, false, false, true, false, false] (any_of HT_.out (by kernel_rfl)) ?_
       refine one_ (i := 8) (N := some 39) #[true, true, true, true, true, true, true, true, true, false, false, false, true, false, false] rfl rfl (one_of HT_.out (by kernel_rfl)) (by decide) (fun K hK => ?_)
       refine goes_ Try.func74 (by kernel_rfl) rfl #[.agg #[.int .i64 t1207, .int .i64 t1208, .int .i64 t1209, .int .i64 t1210], .agg #[.int .i64 a1_0, .int .i64 a1_1, .int .i64 a1_2, .int .i64 a1_3]] (by rfl) rfl rfl zq6 ?_
       with_reducible refine (impl_leastQuotient.calls kj2 t1207 t1208 t1209 t1210 a1_0 a1_1 a1_2 a1_3 t1211 t1212 t1213 _ A39.out).mono ?_
       rintro e w108 ⟨rfl, hb⟩
       refine ⟨_, rfl, ?_⟩
       replace BK1197 := Aside0.mk (zbb BK1197 hb); replace BK1198 := Aside0.mk (zbb BK1198 hb); replace BK1199 := Aside0.mk (zbb BK1199 hb); replace BK1206 := Aside0.mk (zbb BK1206 hb); replace BK1214 := Aside0.mk (zbb BK1214 hb); replace HB := Aside0.mk (below_step (zb1 HB) hb)
       (try clear hb)
       (try clear hb2)
       (try clear hk)
       (try clear hi)
       refine hK.out _ _ ⟨zc BK1197 0, zc BK1197 1, zc BK1197 2, zc BK1197 3, zc BK1198 0, zc BK1198 1, zc BK1198 2, zc BK1198 3⟩ (fun hHeld => ?_)
       clear hK K
       refine norm_ (a' := ?_) ?_ ?_
       rotate_left
       ·
        show Act.put _ (some 39) _ = _
        simp only [Act.put, List.setIfInBounds_toArray, List.set_cons_zero, List.set_cons_succ, i64_w, i32_w]; rfl
       refine zp (i := 9) (N := some 30) #[true, true, true, true, true, true, true, true, true, true, false, false, true, false, false] (any_of HT_.out (by kernel_rfl)) ?_
       refine zp (i := 10) (N := some 40) #[true, true, true, true, true, true, true, true, true, true, true, false, true, false, false] (any_of HT_.out (by kernel_rfl)) ?_
       refine zp (i := 11) (N := some 41) #[true, true, true, true, true, true, true, true, true, true, true, true, true, false, false] (any_of HT_.out (by kernel_rfl)) ?_
       exact norm_ (by simp only [putAll, Act.put, List.setIfInBounds_toArray, List.set_cons_zero, List.set_cons_succ]) (hCont (gb1214) _ ⟨hHeld, (zq1 BK1197), (zq1 BK1198), (zq1 BK1199), (zq1 BK1206), (zq1 BK1214), GW1214.out, GE1214.out, NB1197_1214.out, NB1214_1197.out, NB1198_1214.out, NB1214_1198.out, NB1199_1214.out, NB1214_1199.out, NB1206_1214.out, NB1214_1206.out, (zb1 HB)⟩)
     rintro gb1214 w109 ⟨hS_, h0_, h1_, h2_, h3_, h4_, h5_, h6_, h7_, h8_, h9_, h10_, h11_, h12_, h13_, h14_, h15_⟩
     have BK1214 : Aside0 (w109.heap[gb1214]? = some (.cells #[.int .i64 0, .int .i64 0] 27 (0, 0))) := ⟨h4_⟩
     have GW1214 : Aside0 (w.heap.size ≤ gb1214) := ⟨h5_⟩
     have GE1214 : Aside0 (w.heap.size ≤ gb1214) := ⟨h6_⟩
     have NB1197_1214 : Aside0 (gb1197 ≠ gb1214) := ⟨h7_⟩
     have NB1214_1197 : Aside0 (gb1214 ≠ gb1197) := ⟨h8_⟩
     have NB1198_1214 : Aside0 (gb1198 ≠ gb1214) := ⟨h9_⟩
     have NB1214_1198 : Aside0 (gb1214 ≠ gb1198) := ⟨h10_⟩
     have NB1199_1214 : Aside0 (gb1199 ≠ gb1214) := ⟨h11_⟩
     have NB1214_1199 : Aside0 (gb1214 ≠ gb1199) := ⟨h12_⟩
     have NB1206_1214 : Aside0 (gb1206 ≠ gb1214) := ⟨h13_⟩
     have NB1214_1206 : Aside0 (gb1214 ≠ gb1206) := ⟨h14_⟩
     replace BK1197 : Aside0 (w109.heap[gb1197]? = some (.cells #[.int .i64 a0_0, .int .i64 a0_1, .int .i64 a0_2, .int .i64 a0_3] 29 (0, 0))) := ⟨h0_⟩; replace BK1198 : Aside0 (w109.heap[gb1198]? = some (.cells #[.int .i64 a1_0, .int .i64 a1_1, .int .i64 a1_2, .int .i64 a1_3] 29 (0, 0))) := ⟨h1_⟩; replace BK1199 : Aside0 (w109.heap[gb1199]? = some (.cells #[.int .i64 0, .int .i64 0, .int .i64 0, .int .i64 0] 29 (0, 0))) := ⟨h2_⟩; replace BK1206 : Aside0 (w109.heap[gb1206]? = some (.cells #[.int .i64 t1203, .int .i64 t1204] 27 (0, 0))) := ⟨h3_⟩; replace HB : Aside0 (Below w.heap.size w w109) := ⟨h15_⟩
     clear h0_ h10_ h11_ h12_ h13_ h14_ h15_ h1_ h2_ h3_ h4_ h5_ h6_ h7_ h8_ h9_
     have hHeld : w109.cell? ⟨gb1197, 0, none⟩ = some (.int .i64 a0_0) ∧ w109.cell? ⟨gb1197, 1, none⟩ = some (.int .i64 a0_1) ∧ w109.cell? ⟨gb1197, 2, none⟩ = some (.int .i64 a0_2) ∧ w109.cell? ⟨gb1197, 3, none⟩ = some (.int .i64 a0_3) ∧ w109.cell? ⟨gb1198, 0, none⟩ = some (.int .i64 a1_0) ∧ w109.cell? ⟨gb1198, 1, none⟩ = some (.int .i64 a1_1) ∧ w109.cell? ⟨gb1198, 2, none⟩ = some (.int .i64 a1_2) ∧ w109.cell? ⟨gb1198, 3, none⟩ = some (.int .i64 a1_3) := hS_
     refine norm_ (a' := ?_) ?_ ?_
     rotate_left
     ·
      simp only [putAll, Act.put, List.setIfInBounds_toArray, List.set_cons_zero, List.set_cons_succ]
      rfl
     refine one_ (i := 13) (N := none) #[true, true, true, true, true, true, true, true, true, true, true, true, true, true, false] rfl rfl (one_of HT_.out (by kernel_rfl)) (by decide) (fun K hK => ?_)
     have hs110 : w109.cell? ⟨gb1214, 0, none⟩ = some (.int .i64 0) := zc BK1214 0
     have hfs110 := blk_frozen BK1214.out 0
     have hns110_0 := NB1197_1214.out
     have hns110_1 := NB1198_1214.out
     have hns110_2 := NB1199_1214.out
     have hns110_3 := NB1206_1214.out
     have hms110_0 := NB1214_1197.out
     have hms110_1 := NB1214_1198.out
     have hms110_2 := NB1214_1199.out
     have hms110_3 := NB1214_1206.out
     have hs111 : w109.cell? ⟨gb1214, 1, none⟩ = some (.int .i64 0) := zc BK1214 1
     have hfs111 := blk_frozen BK1214.out 1
     have hns111_0 := NB1197_1214.out
     have hns111_1 := NB1198_1214.out
     have hns111_2 := NB1199_1214.out
     have hns111_3 := NB1206_1214.out
     have hms111_0 := NB1214_1197.out
     have hms111_1 := NB1214_1198.out
     have hms111_2 := NB1214_1199.out
     have hms111_3 := NB1214_1206.out
     refine skip_ (w1 := ?_) (by rfl) rfl ?_ ?_
     rotate_left
     ·
      go_simp
      rfl
     refine hK.out _ _ ⟨((cell_far (p := ⟨gb1214, _, none⟩) NB1197_1214.out _).trans (((cell_far (p := ⟨gb1214, _, none⟩) NB1197_1214.out _).trans (hHeld.1)))), ((cell_far (p := ⟨gb1214, _, none⟩) NB1197_1214.out _).trans (((cell_far (p := ⟨gb1214, _, none⟩) NB1197_1214.out _).trans (hHeld.2.1)))), ((cell_far (p := ⟨gb1214, _, none⟩) NB1197_1214.out _).trans (((cell_far (p := ⟨gb1214, _, none⟩) NB1197_1214.out _).trans (hHeld.2.2.1)))), ((cell_far (p := ⟨gb1214, _, none⟩) NB1197_1214.out _).trans (((cell_far (p := ⟨gb1214, _, none⟩) NB1197_1214.out _).trans (hHeld.2.2.2.1)))), ((cell_far (p := ⟨gb1214, _, none⟩) NB1198_1214.out _).trans (((cell_far (p := ⟨gb1214, _, none⟩) NB1198_1214.out _).trans (hHeld.2.2.2.2.1)))), ((cell_far (p := ⟨gb1214, _, none⟩) NB1198_1214.out _).trans (((cell_far (p := ⟨gb1214, _, none⟩) NB1198_1214.out _).trans (hHeld.2.2.2.2.2.1)))), ((cell_far (p := ⟨gb1214, _, none⟩) NB1198_1214.out _).trans (((cell_far (p := ⟨gb1214, _, none⟩) NB1198_1214.out _).trans (hHeld.2.2.2.2.2.2.1)))), ((cell_far (p := ⟨gb1214, _, none⟩) NB1198_1214.out _).trans (((cell_far (p := ⟨gb1214, _, none⟩) NB1198_1214.out _).trans (hHeld.2.2.2.2.2.2.2))))⟩ (fun hHeld => ?_)
     clear hK K
     refine zp (i := 14) (N := some 9) #[true, true, true, true, true, true, true, true, true, true, true, true, true, true, true] (any_of HT_.out (by kernel_rfl)) ?_
     refine done_ (done_of HT_.out (by kernel_rfl)) ?_
     have hnb112 := NB1199_1214.out
     have hnc112 := NB1214_1199.out
     have hcz113_0 : w109.cell? ⟨gb1199, 0, none⟩ = some (.int .i64 0) := zc BK1199 0
     have hcz113_1 : w109.cell? ⟨gb1199, 1, none⟩ = some (.int .i64 0) := zc BK1199 1
     have hcz113_2 : w109.cell? ⟨gb1199, 2, none⟩ = some (.int .i64 0) := zc BK1199 2
     have hcz113_3 : w109.cell? ⟨gb1199, 3, none⟩ = some (.int .i64 0) := zc BK1199 3
     have hfz113_0 := blk_frozen BK1199.out 0
     have hfz113_1 := blk_frozen BK1199.out 1
     have hfz113_2 := blk_frozen BK1199.out 2
     have hfz113_3 := blk_frozen BK1199.out 3
     try go_wp2
     refine bodyPost_ret (results_ct rfl _ _ gb1199 29 #[.int .i64 0, .int .i64 0, .int .i64 0, .int .i64 0] (0, 0) _ rfl (by (with_reducible repeat (first | refine blk_drewN ?_ _ | refine blk_drew ?_ | refine blk_alloc ?_ _)); refine blk_put (cs := #[.int .i64 0, .int .i64 0, .int .i64 0, .int .i64 0]) ?_ 3 _ rfl; (with_reducible repeat (first | refine blk_drewN ?_ _ | refine blk_drew ?_ | refine blk_alloc ?_ _)); refine blk_put (cs := #[.int .i64 0, .int .i64 0, .int .i64 0, .int .i64 0]) ?_ 2 _ rfl; (with_reducible repeat (first | refine blk_drewN ?_ _ | refine blk_drew ?_ | refine blk_alloc ?_ _)); refine blk_put (cs := #[.int .i64 0, .int .i64 0, .int .i64 0, .int .i64 0]) ?_ 1 _ rfl; (with_reducible repeat (first | refine blk_drewN ?_ _ | refine blk_drew ?_ | refine blk_alloc ?_ _)); refine blk_put (cs := #[.int .i64 0, .int .i64 0, .int .i64 0, .int .i64 0]) ?_ 0 _ rfl; (with_reducible repeat (first | refine blk_drewN ?_ _ | refine blk_drew ?_ | refine blk_alloc ?_ _)); refine blk_far ?_ NB1199_1214.out _; (with_reducible repeat (first | refine blk_drewN ?_ _ | refine blk_drew ?_ | refine blk_alloc ?_ _)); refine blk_far ?_ NB1199_1214.out _; (with_reducible repeat (first | refine blk_drewN ?_ _ | refine blk_drew ?_ | refine blk_alloc ?_ _)); exact BK1199.out) Try.underlying29 rfl (by kernel_rfl)) rfl ?_
     exact ⟨by first | rfl | (simp [errW_none, errW_some] <;> rfl) | (simp [*, errW_none, errW_some] <;> rfl), (zb1 HB)⟩
end Go.Proofs.Ytinpcalgdiigiaa.PD
