-- By wip/mk/drv.py
import Derived.Test.YtinpcalgdiigiaaQMultlsPDx0
import Derived.Test.YtinpcalgdiigiaaQMultlsPDx1
import Derived.Test.YtinpcalgdiigiaaQMultlsPDx4
import Derived.Test.YtinpcalgdiigiaaQMultlsPDx11
import Derived.Test.YtinpcalgdiigiaaQMultlsPDx68
import Derived.Test.YtinpcalgdiigiaaQMultlsPDx88
namespace Go.Proofs.Ytinpcalgdiigiaa.PD
open Go.RowKit Go.Proofs.YtinpcalgdiigiaaW.PrintWords Go.Proofs.YtinpcalgdiigiaaW.PrintLast Go.Proofs.YtinpcalgdiigiaaW.PrintMore
attribute [local go_sem] max2_int min2_int max_two min_two max_three min_three max_four min_four
set_option linter.unusedVariables false
set_option linter.unusedSimpArgs false
/-! ### impl_MultiplyIntervals: function 37 -/
theorem z37_0 {P Q : Prop} (h : Aside0 (Q)) (f : Q → P := by intro h_; repeat (first | (with_reducible first | exact h_ | apply IsS57.alloc | apply IsS57.drewN | apply IsS57.drew | apply IsS57.set_0 | refine IsS57.far ?_ (Aside0.out (by assumption)) _) | exact h_)) : P := f h.out
theorem z37_1 {w W0 W1 : World} {B : Nat} (h : Aside0 (Below B w W0)) (f : Below B w W0 → Below B w W1 := by intro h_; repeat (first | (with_reducible first | exact h_ | apply below_alloc | apply pw_below_drewN | apply below_drew1 | refine below_set ?_ (IsS57.ge (Aside0.out (by assumption))) | refine below_set ?_ (Aside0.out (by assumption))) | exact h_)) : Below B w W1 := f h.out
set_option maxHeartbeats 8000000 in
set_option maxRecDepth 100000 in
theorem impl_MultiplyIntervals.calls (k : Nat) (a0_0 : Int) (a0_1 : Int) (a0_2 : Int) (a0_3 : Int) (a1_0 : Int) (a1_1 : Int) (a1_2 : Int) (a1_3 : Int) (r1 : Int) (r2 : Int) (r3 : Int) (r4 : Int) (r5 : Bool) (w : World) (h : impl_MultiplyIntervals.f k a0_0 a0_1 a0_2 a0_3 a1_0 a1_1 a1_2 a1_3 = some (r1, r2, r3, r4, r5)) :
  Calls Try.prog 37 #[.agg #[.int .i64 a0_0, .int .i64 a0_1, .int .i64 a0_2, .int .i64 a0_3], .agg #[.int .i64 a1_0, .int .i64 a1_1, .int .i64 a1_2, .int .i64 a1_3]] w fun e w' => e = .returned (.tuple #[.agg #[.int .i64 r1, .int .i64 r2, .int .i64 r3, .int .i64 r4], .bool r5]) ∧ Below w.heap.size w w' := by
 have hu29 := Try.underlying29
 have hu57 := Try.underlying57
 have HB := Aside0.mk (Below.refl w.heap.size w)
 have H : ((impl_isInterval.f k a0_0 a0_1 a0_2 a0_3).bind fun t894 => (if t894 = true then ((impl_isInterval.f k a1_0 a1_1 a1_2 a1_3).bind fun t895 => (impl_MultiplyIntervals.j0 k (!t895) a0_0 a0_1 a0_2 a0_3 a1_0 a1_1 a1_2 a1_3)) else (impl_MultiplyIntervals.j0 k true a0_0 a0_1 a0_2 a0_3 a1_0 a1_1 a1_2 a1_3))) = some (r1, r2, r3, r4, r5) := h
 clear h
 have HC3 := Aside0.mk H
 clear H
 go_enter Try.func37, Try.ntmps37
 go_upto_region 1 with (first | ((with_reducible refine gate_dst (N := 2) rfl ?_); refine zbe (N := 2) (cs := #[.int .i64 a0_0, .int .i64 a0_1, .int .i64 a0_2, .int .i64 a0_3]) (t := 29) ?_; intro gb891 hg w4 hbox hb; have BK891 := Aside0.mk (hbox); have GW891 := Aside0.mk (zge (zb0 HB) hg); have GE891 := GW891; replace HB := Aside0.mk (below_step (zb0 HB) hb); clear hb hbox hg) | ((with_reducible refine gate_dst (N := 3) rfl ?_); refine zbe (N := 3) (cs := #[.int .i64 a1_0, .int .i64 a1_1, .int .i64 a1_2, .int .i64 a1_3]) (t := 29) ?_; intro gb892 hg w5 hbox hb; have BK892 := Aside0.mk (hbox); have GW892 := Aside0.mk (zge (zb1 HB) hg); have GE892 := GW892; have NB891_892 := Aside0.mk (zlt BK891 hg); have NB892_891 := Aside0.mk (zgt BK891 hg); replace BK891 := Aside0.mk (zbb BK891 hb); replace HB := Aside0.mk (below_step (zb1 HB) hb); clear hb hbox hg) | ((with_reducible refine gate_dst (N := 4) rfl ?_); refine zbe (N := 4) (cs := #[.int .i64 0, .int .i64 0, .int .i64 0, .int .i64 0]) (t := 29) ?_; intro gb893 hg w6 hbox hb; have BK893 := Aside0.mk (hbox); have GW893 := Aside0.mk (zge (zb1 HB) hg); have GE893 := GW893; have NB891_893 := Aside0.mk (zlt BK891 hg); have NB893_891 := Aside0.mk (zgt BK891 hg); have NB892_893 := Aside0.mk (zlt BK892 hg); have NB893_892 := Aside0.mk (zgt BK892 hg); replace BK891 := Aside0.mk (zbb BK891 hb); replace BK892 := Aside0.mk (zbb BK892 hb); replace HB := Aside0.mk (below_step (zb1 HB) hb); clear hb hbox hg))
 (try simp only [Act.put, List.setIfInBounds_toArray, List.set_cons_zero, List.set_cons_succ])
 go_cut [14] (fun v14 wc => ∃ (kq : Nat) (x14_2 : Bool), v14 = .bool x14_2 ∧ Aside0 (impl_MultiplyIntervals.j0 kq x14_2 a0_0 a0_1 a0_2 a0_3 a1_0 a1_1 a1_2 a1_3 = some (r1, r2, r3, r4, r5)) ∧ Aside0 (kq ≤ k) ∧ Aside0 (wc.heap[gb891]? = some (.cells #[.int .i64 a0_0, .int .i64 a0_1, .int .i64 a0_2, .int .i64 a0_3] 29 (0, 0))) ∧ Aside0 (wc.heap[gb892]? = some (.cells #[.int .i64 a1_0, .int .i64 a1_1, .int .i64 a1_2, .int .i64 a1_3] 29 (0, 0))) ∧ Aside0 (wc.heap[gb893]? = some (.cells #[.int .i64 0, .int .i64 0, .int .i64 0, .int .i64 0] 29 (0, 0))) ∧ Aside0 (Below w.heap.size w wc))
 case first =>
  have H := HC3.out
  clear HC3
  replace H := Option.bind_eq_some_iff.mp H
  obtain ⟨t894, A70, H⟩ := H
  replace H : (if t894 = true then ((impl_isInterval.f k a1_0 a1_1 a1_2 a1_3).bind fun t895 => (impl_MultiplyIntervals.j0 k (!t895) a0_0 a0_1 a0_2 a0_3 a1_0 a1_1 a1_2 a1_3)) else (impl_MultiplyIntervals.j0 k true a0_0 a0_1 a0_2 a0_3 a1_0 a1_1 a1_2 a1_3)) = some (r1, r2, r3, r4, r5) := H
  have A7 := Aside0.mk A70
  clear A70
  by_cases c8 : t894 = true
  ·
   subst c8
   have H1 : ((impl_isInterval.f k a1_0 a1_1 a1_2 a1_3).bind fun t895 => (impl_MultiplyIntervals.j0 k (!t895) a0_0 a0_1 a0_2 a0_3 a1_0 a1_1 a1_2 a1_3)) = some (r1, r2, r3, r4, r5) := by rw [if_pos rfl] at H; exact H
   clear H
   have H := H1
   clear H1
   replace H := Option.bind_eq_some_iff.mp H
   obtain ⟨t895, A90, H⟩ := H
   replace H : (impl_MultiplyIntervals.j0 k (!t895) a0_0 a0_1 a0_2 a0_3 a1_0 a1_1 a1_2 a1_3) = some (r1, r2, r3, r4, r5) := H
   have A9 := Aside0.mk A90
   clear A90
   have H' := Aside0.mk H
   clear H
   have hnb10 := NB891_892.out
   have hnc10 := NB892_891.out
   have hnb11 := NB891_893.out
   have hnc11 := NB893_891.out
   have hcz12_0 : w6.cell? ⟨gb891, 0, none⟩ = some (.int .i64 a0_0) := zc BK891 0
   have hcz12_1 : w6.cell? ⟨gb891, 1, none⟩ = some (.int .i64 a0_1) := zc BK891 1
   have hcz12_2 : w6.cell? ⟨gb891, 2, none⟩ = some (.int .i64 a0_2) := zc BK891 2
   have hcz12_3 : w6.cell? ⟨gb891, 3, none⟩ = some (.int .i64 a0_3) := zc BK891 3
   have hfz12_0 := blk_frozen BK891.out 0
   have hfz12_1 := blk_frozen BK891.out 1
   have hfz12_2 := blk_frozen BK891.out 2
   have hfz12_3 := blk_frozen BK891.out 3
   go_wp2_with (first | ((with_reducible refine gate_callee (f := 44) rfl ?_); refine goesL_ (some 8) rfl rfl Try.func44 (by kernel_rfl) rfl #[.agg #[.int .i64 a0_0, .int .i64 a0_1, .int .i64 a0_2, .int .i64 a0_3]] rfl zq6 ?_; (with_reducible refine (impl_isInterval.calls k a0_0 a0_1 a0_2 a0_3 true _ A7.out).mono ?_); rintro e w13 ⟨rfl, hb⟩; refine ⟨_, rfl, ?_⟩; replace BK891 := Aside0.mk (zbb BK891 hb); replace BK892 := Aside0.mk (zbb BK892 hb); replace BK893 := Aside0.mk (zbb BK893 hb); replace HB := Aside0.mk (below_step (zb1 HB) hb); (try clear hb); (try clear hb2); (try clear hk); (try clear hi); have hnb14 := NB892_893.out; have hnc14 := NB893_892.out; have hcz15_0 : w13.cell? ⟨gb892, 0, none⟩ = some (.int .i64 a1_0) := zc BK892 0; have hcz15_1 : w13.cell? ⟨gb892, 1, none⟩ = some (.int .i64 a1_1) := zc BK892 1; have hcz15_2 : w13.cell? ⟨gb892, 2, none⟩ = some (.int .i64 a1_2) := zc BK892 2; have hcz15_3 : w13.cell? ⟨gb892, 3, none⟩ = some (.int .i64 a1_3) := zc BK892 3; have hfz15_0 := blk_frozen BK892.out 0; have hfz15_1 := blk_frozen BK892.out 1; have hfz15_2 := blk_frozen BK892.out 2; have hfz15_3 := blk_frozen BK892.out 3) | (go_at_call 44; (with_reducible refine (impl_isInterval.calls k a1_0 a1_1 a1_2 a1_3 t895 _ A9.out).mono ?_); rintro e w16 ⟨rfl, hb⟩; replace BK891 := Aside0.mk (zbb BK891 hb); replace BK892 := Aside0.mk (zbb BK892 hb); replace BK893 := Aside0.mk (zbb BK893 hb); replace HB := Aside0.mk (below_step (zb1 HB) hb); (try clear hb); (try clear hb2); (try clear hk); (try clear hi)))
   go_meet
   case rel => exact ⟨_, (!t895), (by first | rfl | (simp; done) | (simp [*]; done)), H', ⟨by first | omega | exact Nat.le_refl _⟩, ⟨by (with_reducible repeat (first | refine blk_drewN ?_ _ | refine blk_drew ?_ | refine blk_alloc ?_ _)); exact BK891.out⟩, ⟨by (with_reducible repeat (first | refine blk_drewN ?_ _ | refine blk_drew ?_ | refine blk_alloc ?_ _)); exact BK892.out⟩, ⟨by (with_reducible repeat (first | refine blk_drewN ?_ _ | refine blk_drew ?_ | refine blk_alloc ?_ _)); exact BK893.out⟩, ⟨(zb1 HB)⟩⟩
  ·
   replace c8 := Bool.eq_false_iff.mpr c8
   subst c8
   have H1 : (impl_MultiplyIntervals.j0 k true a0_0 a0_1 a0_2 a0_3 a1_0 a1_1 a1_2 a1_3) = some (r1, r2, r3, r4, r5) := by rw [if_neg (show ¬ (false = true) by decide)] at H; exact H
   clear H
   have H := H1
   clear H1
   have H' := Aside0.mk H
   clear H
   have hnb17 := NB891_892.out
   have hnc17 := NB892_891.out
   have hnb18 := NB891_893.out
   have hnc18 := NB893_891.out
   have hcz19_0 : w6.cell? ⟨gb891, 0, none⟩ = some (.int .i64 a0_0) := zc BK891 0
   have hcz19_1 : w6.cell? ⟨gb891, 1, none⟩ = some (.int .i64 a0_1) := zc BK891 1
   have hcz19_2 : w6.cell? ⟨gb891, 2, none⟩ = some (.int .i64 a0_2) := zc BK891 2
   have hcz19_3 : w6.cell? ⟨gb891, 3, none⟩ = some (.int .i64 a0_3) := zc BK891 3
   have hfz19_0 := blk_frozen BK891.out 0
   have hfz19_1 := blk_frozen BK891.out 1
   have hfz19_2 := blk_frozen BK891.out 2
   have hfz19_3 := blk_frozen BK891.out 3
   go_wp2_with (first | ((with_reducible refine gate_callee (f := 44) rfl ?_); refine goesL_ (some 8) rfl rfl Try.func44 (by kernel_rfl) rfl #[.agg #[.int .i64 a0_0, .int .i64 a0_1, .int .i64 a0_2, .int .i64 a0_3]] rfl zq6 ?_; (with_reducible refine (impl_isInterval.calls k a0_0 a0_1 a0_2 a0_3 false _ A7.out).mono ?_); rintro e w20 ⟨rfl, hb⟩; refine ⟨_, rfl, ?_⟩; replace BK891 := Aside0.mk (zbb BK891 hb); replace BK892 := Aside0.mk (zbb BK892 hb); replace BK893 := Aside0.mk (zbb BK893 hb); replace HB := Aside0.mk (below_step (zb1 HB) hb); (try clear hb); (try clear hb2); (try clear hk); (try clear hi)))
   go_meet
   case rel => exact ⟨_, (true), (by first | rfl | (simp; done) | (simp [*]; done)), H', ⟨by first | omega | exact Nat.le_refl _⟩, ⟨by (with_reducible repeat (first | refine blk_drewN ?_ _ | refine blk_drew ?_ | refine blk_alloc ?_ _)); exact BK891.out⟩, ⟨by (with_reducible repeat (first | refine blk_drewN ?_ _ | refine blk_drew ?_ | refine blk_alloc ?_ _)); exact BK892.out⟩, ⟨by (with_reducible repeat (first | refine blk_drewN ?_ _ | refine blk_drew ?_ | refine blk_alloc ?_ _)); exact BK893.out⟩, ⟨(zb1 HB)⟩⟩
 case rest =>
  clear HC3
  try clear c1
  try clear p2
  try clear c3
  try clear c4
  try clear c8
  try clear c10
  try clear c11
  try clear c14
  try clear c17
  try clear c18
  try clear hcz12_0
  try clear hcz12_1
  try clear hcz12_2
  try clear hcz12_3
  try clear hcz15_0
  try clear hcz15_1
  try clear hcz15_2
  try clear hcz15_3
  try clear hcz19_0
  try clear hcz19_1
  try clear hcz19_2
  try clear hcz19_3
  try clear hfz12_0
  try clear hfz12_1
  try clear hfz12_2
  try clear hfz12_3
  try clear hfz15_0
  try clear hfz15_1
  try clear hfz15_2
  try clear hfz15_3
  try clear hfz19_0
  try clear hfz19_1
  try clear hfz19_2
  try clear hfz19_3
  obtain ⟨kq, x14_2, rfl, HA, HJ2, BK891, BK892, BK893, HB⟩ := hcut
  cases kq with
  | zero => exact absurd HA.out (by simp [impl_MultiplyIntervals.j0])
  | succ kj2 =>
   have H := HA.out
   clear HA
   simp only [impl_MultiplyIntervals.j0] at H
   by_cases c21 : x14_2 = true
   ·
    subst c21
    have H1 : (some (0, 0, 0, 0, false)) = some (r1, r2, r3, r4, r5) := by rw [if_pos rfl] at H; exact H
    clear H
    have H := H1
    clear H1
    simp only [Option.some.injEq, Prod.mk.injEq] at H
    obtain ⟨rfl, rfl, rfl, rfl, rfl⟩ := H
    have hnb22 := NB893_891.out
    have hnc22 := NB891_893.out
    have hnb23 := NB893_892.out
    have hnc23 := NB892_893.out
    have hcz24_0 : wc.cell? ⟨gb893, 0, none⟩ = some (.int .i64 0) := zc BK893 0
    have hcz24_1 : wc.cell? ⟨gb893, 1, none⟩ = some (.int .i64 0) := zc BK893 1
    have hcz24_2 : wc.cell? ⟨gb893, 2, none⟩ = some (.int .i64 0) := zc BK893 2
    have hcz24_3 : wc.cell? ⟨gb893, 3, none⟩ = some (.int .i64 0) := zc BK893 3
    have hfz24_0 := blk_frozen BK893.out 0
    have hfz24_1 := blk_frozen BK893.out 1
    have hfz24_2 := blk_frozen BK893.out 2
    have hfz24_3 := blk_frozen BK893.out 3
    go_wp2
    refine bodyPost_ret (results_ct rfl _ _ gb893 29 #[.int .i64 0, .int .i64 0, .int .i64 0, .int .i64 0] (0, 0) _ rfl (by (with_reducible repeat (first | refine blk_drewN ?_ _ | refine blk_drew ?_ | refine blk_alloc ?_ _)); refine blk_put (cs := #[.int .i64 0, .int .i64 0, .int .i64 0, .int .i64 0]) ?_ 3 _ rfl; (with_reducible repeat (first | refine blk_drewN ?_ _ | refine blk_drew ?_ | refine blk_alloc ?_ _)); refine blk_put (cs := #[.int .i64 0, .int .i64 0, .int .i64 0, .int .i64 0]) ?_ 2 _ rfl; (with_reducible repeat (first | refine blk_drewN ?_ _ | refine blk_drew ?_ | refine blk_alloc ?_ _)); refine blk_put (cs := #[.int .i64 0, .int .i64 0, .int .i64 0, .int .i64 0]) ?_ 1 _ rfl; (with_reducible repeat (first | refine blk_drewN ?_ _ | refine blk_drew ?_ | refine blk_alloc ?_ _)); refine blk_put (cs := #[.int .i64 0, .int .i64 0, .int .i64 0, .int .i64 0]) ?_ 0 _ rfl; (with_reducible repeat (first | refine blk_drewN ?_ _ | refine blk_drew ?_ | refine blk_alloc ?_ _)); exact BK893.out) Try.underlying29 rfl (by kernel_rfl)) rfl ?_
    exact ⟨by first | rfl | (simp [errW_none, errW_some] <;> rfl) | (simp [*, errW_none, errW_some] <;> rfl), (zb1 HB)⟩
   ·
    replace c21 := Bool.eq_false_iff.mpr c21
    subst c21
    have H1 : ((impl_reckoner_multiply.f kj2 true a0_0 a0_1 a0_2 a0_3 a1_0 a1_1 a1_2 a1_3).bind fun bt897 => ((impl_reckoner_result.f bt897.2.2.2.2 bt897.1 bt897.2.1 bt897.2.2.1 bt897.2.2.2.1).bind fun bt902 => (some (bt902.1, bt902.2.1, bt902.2.2.1, bt902.2.2.2.1, bt902.2.2.2.2.1)))) = some (r1, r2, r3, r4, r5) := by rw [if_neg (show ¬ (false = true) by decide)] at H; exact H
    clear H
    have H := H1
    clear H1
    replace H := Option.bind_eq_some_iff.mp H
    obtain ⟨⟨t897, t898, t899, t900, t901⟩, A250, H⟩ := H
    replace H : ((impl_reckoner_result.f t901 t897 t898 t899 t900).bind fun bt902 => (some (bt902.1, bt902.2.1, bt902.2.2.1, bt902.2.2.2.1, bt902.2.2.2.2.1))) = some (r1, r2, r3, r4, r5) := H
    have A25 := Aside0.mk A250
    clear A250
    replace H := Option.bind_eq_some_iff.mp H
    obtain ⟨⟨t902, t903, t904, t905, t906, t907⟩, A260, H⟩ := H
    replace H : (some (t902, t903, t904, t905, t906)) = some (r1, r2, r3, r4, r5) := H
    have A26 := Aside0.mk A260
    clear A260
    simp only [Option.some.injEq, Prod.mk.injEq] at H
    obtain ⟨rfl, rfl, rfl, rfl, rfl⟩ := H
    go_wp2_with (first | ((with_reducible refine gate_dst (N := 17) rfl ?_); refine zbe (N := 17) (cs := #[.bool true]) (t := 57) ?_; intro gb896 hg w27 hbox hb; have BK896 := Aside0.mk (hbox); have GW896 := Aside0.mk (zge (zb1 HB) hg); have GE896 := GW896; have NB891_896 := Aside0.mk (zlt BK891 hg); have NB896_891 := Aside0.mk (zgt BK891 hg); have NB892_896 := Aside0.mk (zlt BK892 hg); have NB896_892 := Aside0.mk (zgt BK892 hg); have NB893_896 := Aside0.mk (zlt BK893 hg); have NB896_893 := Aside0.mk (zgt BK893 hg); replace BK891 := Aside0.mk (zbb BK891 hb); replace BK892 := Aside0.mk (zbb BK892 hb); replace BK893 := Aside0.mk (zbb BK893 hb); replace HB := Aside0.mk (below_step (zb1 HB) hb); clear hb hbox hg; have hnb28 := NB891_892.out; have hnc28 := NB892_891.out; have hnb29 := NB891_893.out; have hnc29 := NB893_891.out; have hnb30 := NB891_896.out; have hnc30 := NB896_891.out; have hcz31_0 : w27.cell? ⟨gb891, 0, none⟩ = some (.int .i64 a0_0) := zc BK891 0; have hcz31_1 : w27.cell? ⟨gb891, 1, none⟩ = some (.int .i64 a0_1) := zc BK891 1; have hcz31_2 : w27.cell? ⟨gb891, 2, none⟩ = some (.int .i64 a0_2) := zc BK891 2; have hcz31_3 : w27.cell? ⟨gb891, 3, none⟩ = some (.int .i64 a0_3) := zc BK891 3; have hfz31_0 := blk_frozen BK891.out 0; have hfz31_1 := blk_frozen BK891.out 1; have hfz31_2 := blk_frozen BK891.out 2; have hfz31_3 := blk_frozen BK891.out 3; have hnb32 := NB892_893.out; have hnc32 := NB893_892.out; have hnb33 := NB892_896.out; have hnc33 := NB896_892.out; have hcz34_0 : w27.cell? ⟨gb892, 0, none⟩ = some (.int .i64 a1_0) := zc BK892 0; have hcz34_1 : w27.cell? ⟨gb892, 1, none⟩ = some (.int .i64 a1_1) := zc BK892 1; have hcz34_2 : w27.cell? ⟨gb892, 2, none⟩ = some (.int .i64 a1_2) := zc BK892 2; have hcz34_3 : w27.cell? ⟨gb892, 3, none⟩ = some (.int .i64 a1_3) := zc BK892 3; have hfz34_0 := blk_frozen BK892.out 0; have hfz34_1 := blk_frozen BK892.out 1; have hfz34_2 := blk_frozen BK892.out 2; have hfz34_3 := blk_frozen BK892.out 3; have HI896 : Aside0 (IsS57 w w27 gb896 true) := ⟨⟨(zq1 BK896), GE896.out⟩⟩) | ((with_reducible refine gate_callee (f := 68) rfl ?_); refine goesL_ (some 22) rfl rfl Try.func68 (by kernel_rfl) rfl #[.pointer (some ⟨gb896, 0, none⟩), .agg #[.int .i64 a0_0, .int .i64 a0_1, .int .i64 a0_2, .int .i64 a0_3], .agg #[.int .i64 a1_0, .int .i64 a1_1, .int .i64 a1_2, .int .i64 a1_3]] rfl zq6 ?_; (with_reducible refine (impl_reckoner_multiply.calls kj2 gb896 true a0_0 a0_1 a0_2 a0_3 a1_0 a1_1 a1_2 a1_3 t897 t898 t899 t900 t901 w _ ?side1 ?side2 A25.out).mono ?_); (case side1 => exact z37_0 HI896); (case side2 => exact z37_1 HB); rintro e w35 ⟨rfl, hi, hb, hk⟩; refine ⟨_, rfl, ?_⟩; replace BK891 := Aside0.mk (KeepBut.blk hk (zq1 BK891) NB891_896.out (by simp)); replace BK892 := Aside0.mk (KeepBut.blk hk (zq1 BK892) NB892_896.out (by simp)); replace BK893 := Aside0.mk (KeepBut.blk hk (zq1 BK893) NB893_896.out (by simp)); replace HB := Aside0.mk (hb); replace HI896 := Aside0.mk (hi); (try clear hb); (try clear hb2); (try clear hk); (try clear hi)) | ((with_reducible refine gate_callee (f := 63) rfl ?_); refine goesL_ (some 23) rfl rfl Try.func63 (by kernel_rfl) rfl #[.pointer (some ⟨gb896, 0, none⟩), .agg #[.int .i64 t897, .int .i64 t898, .int .i64 t899, .int .i64 t900]] rfl zq6 ?_; (with_reducible refine (impl_reckoner_result.calls gb896 t901 t897 t898 t899 t900 t902 t903 t904 t905 t906 t907 w _ ?side1 ?side2 A26.out).mono ?_); (case side1 => exact z37_0 HI896); (case side2 => exact z37_1 HB); rintro e w36 ⟨rfl, hi, hb, hk⟩; refine ⟨_, rfl, ?_⟩; replace BK891 := Aside0.mk (KeepBut.blk hk (zq1 BK891) NB891_896.out (by simp)); replace BK892 := Aside0.mk (KeepBut.blk hk (zq1 BK892) NB892_896.out (by simp)); replace BK893 := Aside0.mk (KeepBut.blk hk (zq1 BK893) NB893_896.out (by simp)); replace HB := Aside0.mk (hb); replace HI896 := Aside0.mk (hi); (try clear hb); (try clear hb2); (try clear hk); (try clear hi); have hnb37 := NB893_896.out; have hnc37 := NB896_893.out; have hcz38_0 : w36.cell? ⟨gb893, 0, none⟩ = some (.int .i64 0) := zc BK893 0; have hcz38_1 : w36.cell? ⟨gb893, 1, none⟩ = some (.int .i64 0) := zc BK893 1; have hcz38_2 : w36.cell? ⟨gb893, 2, none⟩ = some (.int .i64 0) := zc BK893 2; have hcz38_3 : w36.cell? ⟨gb893, 3, none⟩ = some (.int .i64 0) := zc BK893 3; have hfz38_0 := blk_frozen BK893.out 0; have hfz38_1 := blk_frozen BK893.out 1; have hfz38_2 := blk_frozen BK893.out 2; have hfz38_3 := blk_frozen BK893.out 3))
    refine bodyPost_ret (results_ct rfl _ _ gb893 29 #[.int .i64 t902, .int .i64 t903, .int .i64 t904, .int .i64 t905] (0, 0) _ rfl (by (with_reducible repeat (first | refine blk_drewN ?_ _ | refine blk_drew ?_ | refine blk_alloc ?_ _)); refine blk_put (cs := #[.int .i64 t902, .int .i64 t903, .int .i64 t904, .int .i64 0]) ?_ 3 _ rfl; (with_reducible repeat (first | refine blk_drewN ?_ _ | refine blk_drew ?_ | refine blk_alloc ?_ _)); refine blk_put (cs := #[.int .i64 t902, .int .i64 t903, .int .i64 0, .int .i64 0]) ?_ 2 _ rfl; (with_reducible repeat (first | refine blk_drewN ?_ _ | refine blk_drew ?_ | refine blk_alloc ?_ _)); refine blk_put (cs := #[.int .i64 t902, .int .i64 0, .int .i64 0, .int .i64 0]) ?_ 1 _ rfl; (with_reducible repeat (first | refine blk_drewN ?_ _ | refine blk_drew ?_ | refine blk_alloc ?_ _)); refine blk_put (cs := #[.int .i64 0, .int .i64 0, .int .i64 0, .int .i64 0]) ?_ 0 _ rfl; (with_reducible repeat (first | refine blk_drewN ?_ _ | refine blk_drew ?_ | refine blk_alloc ?_ _)); exact BK893.out) Try.underlying29 rfl (by kernel_rfl)) rfl ?_
    exact ⟨by first | rfl | (simp [errW_none, errW_some] <;> rfl) | (simp [*, errW_none, errW_some] <;> rfl), (z37_1 HB)⟩
end Go.Proofs.Ytinpcalgdiigiaa.PD
