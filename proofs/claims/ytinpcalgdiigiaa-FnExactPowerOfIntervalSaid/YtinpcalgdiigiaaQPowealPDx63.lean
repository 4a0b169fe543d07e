-- By wip/mk/drv.py
import Derived.Test.YtinpcalgdiigiaaQPowealPDx0
import Derived.Test.YtinpcalgdiigiaaQPowealPDx1
import Derived.Test.YtinpcalgdiigiaaQPowealPDx4
import Derived.Test.YtinpcalgdiigiaaQPowealPDx34
namespace Go.Proofs.Ytinpcalgdiigiaa.PD
open Go.RowKit Go.Proofs.YtinpcalgdiigiaaW.PrintWords Go.Proofs.YtinpcalgdiigiaaW.PrintLast Go.Proofs.YtinpcalgdiigiaaW.PrintMore
attribute [local go_sem] max2_int min2_int max_two min_two max_three min_three max_four min_four
set_option linter.unusedVariables false
set_option linter.unusedSimpArgs false
/-! ### spec_dyMul: function 93 -/
set_option maxHeartbeats 8000000 in
set_option maxRecDepth 100000 in
theorem spec_dyMul.calls (k : Nat) (a0_0 : Int) (a0_1 : Int) (a1_0 : Int) (a1_1 : Int) (r1 : Int) (r2 : Int) (r3 : Bool) (w : World) (h : spec_dyMul.f k a0_0 a0_1 a1_0 a1_1 = some (r1, r2, r3)) :
  Calls Try.prog 93 #[.agg #[.int .i64 a0_0, .int .i64 a0_1], .agg #[.int .i64 a1_0, .int .i64 a1_1]] w fun e w' => e = .returned (.tuple #[.agg #[.int .i64 r1, .int .i64 r2], .bool r3]) ∧ Below w.heap.size w w' := by
 have hu27 := Try.underlying27
 have HB := Aside0.mk (Below.refl w.heap.size w)
 have H : (if a0_0 = 0 then (spec_dyMul.j0 k true a0_0 a0_1 a1_0 a1_1) else (spec_dyMul.j0 k (a1_0 == 0) a0_0 a0_1 a1_0 a1_1)) = some (r1, r2, r3) := h
 clear h
 have HC3 := Aside0.mk H
 clear H
 go_enter Try.func93, Try.ntmps93
 go_upto_region 1 with (first | ((with_reducible refine gate_dst (N := 2) rfl ?_); refine zbe (N := 2) (cs := #[.int .i64 a0_0, .int .i64 a0_1]) (t := 27) ?_; intro gb788 hg w4 hbox hb; have BK788 := Aside0.mk (hbox); have GW788 := Aside0.mk (zge (zb0 HB) hg); have GE788 := GW788; replace HB := Aside0.mk (below_step (zb0 HB) hb); clear hb hbox hg) | ((with_reducible refine gate_dst (N := 3) rfl ?_); refine zbe (N := 3) (cs := #[.int .i64 a1_0, .int .i64 a1_1]) (t := 27) ?_; intro gb789 hg w5 hbox hb; have BK789 := Aside0.mk (hbox); have GW789 := Aside0.mk (zge (zb1 HB) hg); have GE789 := GW789; have NB788_789 := Aside0.mk (zlt BK788 hg); have NB789_788 := Aside0.mk (zgt BK788 hg); replace BK788 := Aside0.mk (zbb BK788 hb); replace HB := Aside0.mk (below_step (zb1 HB) hb); clear hb hbox hg) | ((with_reducible refine gate_dst (N := 4) rfl ?_); refine zbe (N := 4) (cs := #[.int .i64 0, .int .i64 0]) (t := 27) ?_; intro gb790 hg w6 hbox hb; have BK790 := Aside0.mk (hbox); have GW790 := Aside0.mk (zge (zb1 HB) hg); have GE790 := GW790; have NB788_790 := Aside0.mk (zlt BK788 hg); have NB790_788 := Aside0.mk (zgt BK788 hg); have NB789_790 := Aside0.mk (zlt BK789 hg); have NB790_789 := Aside0.mk (zgt BK789 hg); replace BK788 := Aside0.mk (zbb BK788 hb); replace BK789 := Aside0.mk (zbb BK789 hb); replace HB := Aside0.mk (below_step (zb1 HB) hb); clear hb hbox hg))
 repeat (go_quiet (first | ((with_reducible refine gate_dst (N := 2) rfl ?_); refine zbe (N := 2) (cs := #[.int .i64 a0_0, .int .i64 a0_1]) (t := 27) ?_; intro gb788 hg w4 hbox hb; have BK788 := Aside0.mk (hbox); have GW788 := Aside0.mk (zge (zb0 HB) hg); have GE788 := GW788; replace HB := Aside0.mk (below_step (zb0 HB) hb); clear hb hbox hg) | ((with_reducible refine gate_dst (N := 3) rfl ?_); refine zbe (N := 3) (cs := #[.int .i64 a1_0, .int .i64 a1_1]) (t := 27) ?_; intro gb789 hg w5 hbox hb; have BK789 := Aside0.mk (hbox); have GW789 := Aside0.mk (zge (zb1 HB) hg); have GE789 := GW789; have NB788_789 := Aside0.mk (zlt BK788 hg); have NB789_788 := Aside0.mk (zgt BK788 hg); replace BK788 := Aside0.mk (zbb BK788 hb); replace HB := Aside0.mk (below_step (zb1 HB) hb); clear hb hbox hg) | ((with_reducible refine gate_dst (N := 4) rfl ?_); refine zbe (N := 4) (cs := #[.int .i64 0, .int .i64 0]) (t := 27) ?_; intro gb790 hg w6 hbox hb; have BK790 := Aside0.mk (hbox); have GW790 := Aside0.mk (zge (zb1 HB) hg); have GE790 := GW790; have NB788_790 := Aside0.mk (zlt BK788 hg); have NB790_788 := Aside0.mk (zgt BK788 hg); have NB789_790 := Aside0.mk (zlt BK789 hg); have NB790_789 := Aside0.mk (zgt BK789 hg); replace BK788 := Aside0.mk (zbb BK788 hb); replace BK789 := Aside0.mk (zbb BK789 hb); replace HB := Aside0.mk (below_step (zb1 HB) hb); clear hb hbox hg)); go_upto_region 1 with (first | ((with_reducible refine gate_dst (N := 2) rfl ?_); refine zbe (N := 2) (cs := #[.int .i64 a0_0, .int .i64 a0_1]) (t := 27) ?_; intro gb788 hg w4 hbox hb; have BK788 := Aside0.mk (hbox); have GW788 := Aside0.mk (zge (zb0 HB) hg); have GE788 := GW788; replace HB := Aside0.mk (below_step (zb0 HB) hb); clear hb hbox hg) | ((with_reducible refine gate_dst (N := 3) rfl ?_); refine zbe (N := 3) (cs := #[.int .i64 a1_0, .int .i64 a1_1]) (t := 27) ?_; intro gb789 hg w5 hbox hb; have BK789 := Aside0.mk (hbox); have GW789 := Aside0.mk (zge (zb1 HB) hg); have GE789 := GW789; have NB788_789 := Aside0.mk (zlt BK788 hg); have NB789_788 := Aside0.mk (zgt BK788 hg); replace BK788 := Aside0.mk (zbb BK788 hb); replace HB := Aside0.mk (below_step (zb1 HB) hb); clear hb hbox hg) | ((with_reducible refine gate_dst (N := 4) rfl ?_); refine zbe (N := 4) (cs := #[.int .i64 0, .int .i64 0]) (t := 27) ?_; intro gb790 hg w6 hbox hb; have BK790 := Aside0.mk (hbox); have GW790 := Aside0.mk (zge (zb1 HB) hg); have GE790 := GW790; have NB788_790 := Aside0.mk (zlt BK788 hg); have NB790_788 := Aside0.mk (zgt BK788 hg); have NB789_790 := Aside0.mk (zlt BK789 hg); have NB790_789 := Aside0.mk (zgt BK789 hg); replace BK788 := Aside0.mk (zbb BK788 hb); replace BK789 := Aside0.mk (zbb BK789 hb); replace HB := Aside0.mk (below_step (zb1 HB) hb); clear hb hbox hg)))
 (try simp only [Act.put, List.setIfInBounds_toArray, List.set_cons_zero, List.set_cons_succ])
 go_cut [14] (fun v14 wc => ∃ (kq : Nat) (x14_2 : Bool), v14 = .bool x14_2 ∧ Aside0 (spec_dyMul.j0 kq x14_2 a0_0 a0_1 a1_0 a1_1 = some (r1, r2, r3)) ∧ Aside0 (kq ≤ k) ∧ Aside0 (wc.heap[gb788]? = some (.cells #[.int .i64 a0_0, .int .i64 a0_1] 27 (0, 0))) ∧ Aside0 (wc.heap[gb789]? = some (.cells #[.int .i64 a1_0, .int .i64 a1_1] 27 (0, 0))) ∧ Aside0 (wc.heap[gb790]? = some (.cells #[.int .i64 0, .int .i64 0] 27 (0, 0))) ∧ Aside0 (Below w.heap.size w wc))
 case first =>
  have H := HC3.out
  clear HC3
  by_cases c7 : a0_0 = 0
  ·
   rw [if_pos c7] at H
   have c7b0 : (a0_0 == 0) = true := beq_iff_eq.mpr c7
   have c7b1 : (a0_0 != 0) = false := bne_eq_false_iff_eq.mpr c7
   clear c7
   (first | rw [c7b0] | (simp only [i64_w, i32_w]; rw [c7b0]) | skip)
   have H' := Aside0.mk H
   clear H
   have hnb8 := NB788_789.out
   have hnc8 := NB789_788.out
   have hnb9 := NB788_790.out
   have hnc9 := NB790_788.out
   have hcz10_0 : w6.cell? ⟨gb788, 0, none⟩ = some (.int .i64 a0_0) := zc BK788 0
   have hcz10_1 : w6.cell? ⟨gb788, 1, none⟩ = some (.int .i64 a0_1) := zc BK788 1
   have hfz10_0 := blk_frozen BK788.out 0
   have hfz10_1 := blk_frozen BK788.out 1
   go_wp2
   repeat (go_quiet (fail); try go_wp2)
   go_meet
   case rel => exact ⟨_, (true), (by first | rfl | (simp; done) | (simp [*]; done)), H', ⟨by first | omega | exact Nat.le_refl _⟩, ⟨by (with_reducible repeat (first | refine blk_drewN ?_ _ | refine blk_drew ?_ | refine blk_alloc ?_ _)); exact BK788.out⟩, ⟨by (with_reducible repeat (first | refine blk_drewN ?_ _ | refine blk_drew ?_ | refine blk_alloc ?_ _)); exact BK789.out⟩, ⟨by (with_reducible repeat (first | refine blk_drewN ?_ _ | refine blk_drew ?_ | refine blk_alloc ?_ _)); exact BK790.out⟩, ⟨(zb1 HB)⟩⟩
  ·
   rw [if_neg c7] at H
   have c7b0 : (a0_0 == 0) = false := beq_eq_false_iff_ne.mpr c7
   have c7b1 : (a0_0 != 0) = true := bne_iff_ne.mpr c7
   (first | rw [c7b0] | (simp only [i64_w, i32_w]; rw [c7b0]) | skip)
   have H' := Aside0.mk H
   clear H
   have hnb11 := NB788_789.out
   have hnc11 := NB789_788.out
   have hnb12 := NB788_790.out
   have hnc12 := NB790_788.out
   have hcz13_0 : w6.cell? ⟨gb788, 0, none⟩ = some (.int .i64 a0_0) := zc BK788 0
   have hcz13_1 : w6.cell? ⟨gb788, 1, none⟩ = some (.int .i64 a0_1) := zc BK788 1
   have hfz13_0 := blk_frozen BK788.out 0
   have hfz13_1 := blk_frozen BK788.out 1
   have hnb14 := NB789_790.out
   have hnc14 := NB790_789.out
   have hcz15_0 : w6.cell? ⟨gb789, 0, none⟩ = some (.int .i64 a1_0) := zc BK789 0
   have hcz15_1 : w6.cell? ⟨gb789, 1, none⟩ = some (.int .i64 a1_1) := zc BK789 1
   have hfz15_0 := blk_frozen BK789.out 0
   have hfz15_1 := blk_frozen BK789.out 1
   go_wp2
   repeat (go_quiet (fail); try go_wp2)
   go_meet
   case rel => exact ⟨_, ((a1_0 == 0)), (by first | rfl | (simp; done) | (simp [*]; done)), H', ⟨by first | omega | exact Nat.le_refl _⟩, ⟨by (with_reducible repeat (first | refine blk_drewN ?_ _ | refine blk_drew ?_ | refine blk_alloc ?_ _)); exact BK788.out⟩, ⟨by (with_reducible repeat (first | refine blk_drewN ?_ _ | refine blk_drew ?_ | refine blk_alloc ?_ _)); exact BK789.out⟩, ⟨by (with_reducible repeat (first | refine blk_drewN ?_ _ | refine blk_drew ?_ | refine blk_alloc ?_ _)); exact BK790.out⟩, ⟨(zb1 HB)⟩⟩
 case rest =>
  clear HC3
  try clear c1
  try clear p2
  try clear c7
  try clear c7b0
  try clear c7b1
  try clear c8
  try clear c9
  try clear c11
  try clear c12
  try clear c14
  try clear hcz10_0
  try clear hcz10_1
  try clear hcz13_0
  try clear hcz13_1
  try clear hcz15_0
  try clear hcz15_1
  try clear hfz10_0
  try clear hfz10_1
  try clear hfz13_0
  try clear hfz13_1
  try clear hfz15_0
  try clear hfz15_1
  obtain ⟨kq, x14_2, rfl, HA, HJ2, BK788, BK789, BK790, HB⟩ := hcut
  cases kq with
  | zero => exact absurd HA.out (by simp [spec_dyMul.j0])
  | succ kj2 =>
   have H := HA.out
   clear HA
   simp only [spec_dyMul.j0] at H
   by_cases c16 : x14_2 = true
   ·
    subst c16
    have H1 : (some (0, 0, true)) = some (r1, r2, r3) := by rw [if_pos rfl] at H; exact H
    clear H
    have H := H1
    clear H1
    simp only [Option.some.injEq, Prod.mk.injEq] at H
    obtain ⟨rfl, rfl, rfl⟩ := H
    have hnb17 := NB790_788.out
    have hnc17 := NB788_790.out
    have hnb18 := NB790_789.out
    have hnc18 := NB789_790.out
    have hcz19_0 : wc.cell? ⟨gb790, 0, none⟩ = some (.int .i64 0) := zc BK790 0
    have hcz19_1 : wc.cell? ⟨gb790, 1, none⟩ = some (.int .i64 0) := zc BK790 1
    have hfz19_0 := blk_frozen BK790.out 0
    have hfz19_1 := blk_frozen BK790.out 1
    go_wp2
    repeat (go_quiet (fail); try go_wp2)
    refine bodyPost_ret (results_ct rfl _ _ gb790 27 #[.int .i64 0, .int .i64 0] (0, 0) _ rfl (by (with_reducible repeat (first | refine blk_drewN ?_ _ | refine blk_drew ?_ | refine blk_alloc ?_ _)); refine blk_put (cs := #[.int .i64 0, .int .i64 0]) ?_ 1 _ rfl; (with_reducible repeat (first | refine blk_drewN ?_ _ | refine blk_drew ?_ | refine blk_alloc ?_ _)); refine blk_put (cs := #[.int .i64 0, .int .i64 0]) ?_ 0 _ rfl; (with_reducible repeat (first | refine blk_drewN ?_ _ | refine blk_drew ?_ | refine blk_alloc ?_ _)); exact BK790.out) Try.underlying27 rfl (by kernel_rfl)) rfl ?_
    exact ⟨by first | rfl | (simp [errW_none, errW_some] <;> rfl) | (simp [*, errW_none, errW_some] <;> rfl), (zb1 HB)⟩
   ·
    replace c16 := Bool.eq_false_iff.mpr c16
    subst c16
    have H1 : (spec_dyMul.l0 kj2 (wrap64 (a0_1 + a1_1)) a0_0 a0_1 a1_0 a1_1) = some (r1, r2, r3) := by rw [if_neg (show ¬ (false = true) by decide)] at H; exact H
    clear H
    have H := H1
    clear H1
    have HC20 := Aside0.mk H
    clear H
    have hnb21 := NB788_789.out
    have hnc21 := NB789_788.out
    have hnb22 := NB788_790.out
    have hnc22 := NB790_788.out
    have hcz23_0 : wc.cell? ⟨gb788, 0, none⟩ = some (.int .i64 a0_0) := zc BK788 0
    have hcz23_1 : wc.cell? ⟨gb788, 1, none⟩ = some (.int .i64 a0_1) := zc BK788 1
    have hfz23_0 := blk_frozen BK788.out 0
    have hfz23_1 := blk_frozen BK788.out 1
    have hnb24 := NB789_790.out
    have hnc24 := NB790_789.out
    have hcz25_0 : wc.cell? ⟨gb789, 0, none⟩ = some (.int .i64 a1_0) := zc BK789 0
    have hcz25_1 : wc.cell? ⟨gb789, 1, none⟩ = some (.int .i64 a1_1) := zc BK789 1
    have hfz25_0 := blk_frozen BK789.out 0
    have hfz25_1 := blk_frozen BK789.out 1
    go_upto_block 0 with (fail)
    repeat (go_quiet (fail); go_upto_block 0 with (fail))
    go_cut [6] (fun v6 wc => ∃ (kq : Nat) (x6_19 : Int) (x789000_19 : Int), v6 = .int .i64 x6_19 ∧ Aside0 (spec_dyMul.j2 kq x6_19 x789000_19 a0_1 a1_0 a1_1 = some (r1, r2, r3)) ∧ Aside0 (kq ≤ kj2) ∧ Aside0 (wc.heap[gb788]? = some (.cells #[.int .i64 x789000_19, .int .i64 a0_1] 27 (0, 0))) ∧ Aside0 (wc.heap[gb789]? = some (.cells #[.int .i64 a1_0, .int .i64 a1_1] 27 (0, 0))) ∧ Aside0 (wc.heap[gb790]? = some (.cells #[.int .i64 0, .int .i64 0] 27 (0, 0))) ∧ Aside0 (Below w.heap.size w wc))
    case first =>
     have H := HC20.out
     clear HC20
     have H' := Aside0.mk H
     clear H
     go_wp2
     repeat (go_quiet (fail); try go_wp2)
     go_loopg [6] kj2 (fun kq v6 w' => ∃ (x6_2 : Int) (x789000_2 : Int), v6 = .int .i64 x6_2 ∧ Aside0 (spec_dyMul.l0 kq x6_2 x789000_2 a0_1 a1_0 a1_1 = some (r1, r2, r3)) ∧ Aside0 (kq ≤ kj2) ∧ Aside0 (w'.heap[gb788]? = some (.cells #[.int .i64 x789000_2, .int .i64 a0_1] 27 (0, 0))) ∧ Aside0 (w'.heap[gb789]? = some (.cells #[.int .i64 a1_0, .int .i64 a1_1] 27 (0, 0))) ∧ Aside0 (w'.heap[gb790]? = some (.cells #[.int .i64 0, .int .i64 0] 27 (0, 0))) ∧ Aside0 (Below w.heap.size w w'))
     case atStart => exact ⟨(wrap64 (a0_1 + a1_1)), (a0_0), (by first | rfl | (simp; done) | (simp [*]; done)), H', ⟨Nat.le_refl _⟩, ⟨by (with_reducible repeat (first | refine blk_drewN ?_ _ | refine blk_drew ?_ | refine blk_alloc ?_ _)); exact BK788.out⟩, ⟨by (with_reducible repeat (first | refine blk_drewN ?_ _ | refine blk_drew ?_ | refine blk_alloc ?_ _)); exact BK789.out⟩, ⟨by (with_reducible repeat (first | refine blk_drewN ?_ _ | refine blk_drew ?_ | refine blk_alloc ?_ _)); exact BK790.out⟩, ⟨(zb1 HB)⟩⟩
     case round =>
      clear H'
      try clear c1
      try clear c2
      try clear p2
      try clear p6
      try clear c7
      try clear c7b0
      try clear c7b1
      try clear c8
      try clear c9
      try clear c11
      try clear c12
      try clear c14
      try clear c16
      try clear c17
      try clear c18
      try clear c21
      try clear c22
      try clear c24
      try clear hcz10_0
      try clear hcz10_1
      try clear hcz13_0
      try clear hcz13_1
      try clear hcz15_0
      try clear hcz15_1
      try clear hcz19_0
      try clear hcz19_1
      try clear hcz23_0
      try clear hcz23_1
      try clear hcz25_0
      try clear hcz25_1
      try clear hfz10_0
      try clear hfz10_1
      try clear hfz13_0
      try clear hfz13_1
      try clear hfz15_0
      try clear hfz15_1
      try clear hfz19_0
      try clear hfz19_1
      try clear hfz23_0
      try clear hfz23_1
      try clear hfz25_0
      try clear hfz25_1
      try clear p2
      obtain ⟨x6_2, x789000_2, rfl, HA, HK2, BK788, BK789, BK790, HB⟩ := hrel
      cases gk with
      | zero => exact absurd HA.out (by simp [spec_dyMul.l0])
      | succ k2 =>
       have H := HA.out
       clear HA
       simp only [spec_dyMul.l0] at H
       by_cases c26 : x6_2 > 0
       ·
        rw [if_pos c26] at H
        have c26b0 : decide (0 < x6_2) = true := decide_eq_true c26
        clear c26
        (first | rw [c26b0] | (simp only [i64_w, i32_w]; rw [c26b0]) | skip)
        by_cases c27 : (Int.tmod x789000_2 2) = 0
        ·
         rw [if_pos c27] at H
         have c27b0 : ((Int.tmod x789000_2 2) == 0) = true := beq_iff_eq.mpr c27
         have c27b1 : ((Int.tmod x789000_2 2) != 0) = false := bne_eq_false_iff_eq.mpr c27
         clear c27
         have H' := Aside0.mk H
         clear H
         have hnb28 := NB788_789.out
         have hnc28 := NB789_788.out
         have hnb29 := NB788_790.out
         have hnc29 := NB790_788.out
         have hcz30_0 : wr.cell? ⟨gb788, 0, none⟩ = some (.int .i64 x789000_2) := zc BK788 0
         have hcz30_1 : wr.cell? ⟨gb788, 1, none⟩ = some (.int .i64 a0_1) := zc BK788 1
         have hfz30_0 := blk_frozen BK788.out 0
         have hfz30_1 := blk_frozen BK788.out 1
         go_wp2
         repeat (go_quiet (fail); try go_wp2)
         go_roundg k2
         case measure => have := HJ2.out; have := HK2.out; omega
         case rel => exact ⟨(wrap64 (x6_2 - 1)), (wrap64 (Int.tdiv x789000_2 2)), (by first | rfl | (simp; done) | (simp [*]; done)), H', ⟨by have := HJ2.out; have := HK2.out; omega⟩, ⟨by (with_reducible repeat (first | refine blk_drewN ?_ _ | refine blk_drew ?_ | refine blk_alloc ?_ _)); refine blk_put (cs := #[.int .i64 x789000_2, .int .i64 a0_1]) ?_ 0 _ rfl; (with_reducible repeat (first | refine blk_drewN ?_ _ | refine blk_drew ?_ | refine blk_alloc ?_ _)); exact BK788.out⟩, ⟨zq5 BK789⟩, ⟨zq5 BK790⟩, ⟨(zb1 HB)⟩⟩
        ·
         rw [if_neg c27] at H
         have c27b0 : ((Int.tmod x789000_2 2) == 0) = false := beq_eq_false_iff_ne.mpr c27
         have c27b1 : ((Int.tmod x789000_2 2) != 0) = true := bne_iff_ne.mpr c27
         have H' := Aside0.mk H
         clear H
         have hnb31 := NB788_789.out
         have hnc31 := NB789_788.out
         have hnb32 := NB788_790.out
         have hnc32 := NB790_788.out
         have hcz33_0 : wr.cell? ⟨gb788, 0, none⟩ = some (.int .i64 x789000_2) := zc BK788 0
         have hcz33_1 : wr.cell? ⟨gb788, 1, none⟩ = some (.int .i64 a0_1) := zc BK788 1
         have hfz33_0 := blk_frozen BK788.out 0
         have hfz33_1 := blk_frozen BK788.out 1
         go_wp2
         repeat (go_quiet (fail); try go_wp2)
         go_meet
         case rel => exact ⟨_, (x6_2), (x789000_2), (by first | rfl | (simp; done) | (simp [*]; done)), H', ⟨by have := HJ2.out; have := HK2.out; first | omega | exact Nat.le_refl _⟩, ⟨by (with_reducible repeat (first | refine blk_drewN ?_ _ | refine blk_drew ?_ | refine blk_alloc ?_ _)); exact BK788.out⟩, ⟨by (with_reducible repeat (first | refine blk_drewN ?_ _ | refine blk_drew ?_ | refine blk_alloc ?_ _)); exact BK789.out⟩, ⟨by (with_reducible repeat (first | refine blk_drewN ?_ _ | refine blk_drew ?_ | refine blk_alloc ?_ _)); exact BK790.out⟩, ⟨(zb1 HB)⟩⟩
       ·
        rw [if_neg c26] at H
        have c26b0 : decide (0 < x6_2) = false := decide_eq_false c26
        clear c26
        (first | rw [c26b0] | (simp only [i64_w, i32_w]; rw [c26b0]) | skip)
        have H' := Aside0.mk H
        clear H
        go_wp2
        repeat (go_quiet (fail); try go_wp2)
        go_meet
        case rel => exact ⟨_, (x6_2), (x789000_2), (by first | rfl | (simp; done) | (simp [*]; done)), H', ⟨by have := HJ2.out; have := HK2.out; first | omega | exact Nat.le_refl _⟩, ⟨by (with_reducible repeat (first | refine blk_drewN ?_ _ | refine blk_drew ?_ | refine blk_alloc ?_ _)); exact BK788.out⟩, ⟨by (with_reducible repeat (first | refine blk_drewN ?_ _ | refine blk_drew ?_ | refine blk_alloc ?_ _)); exact BK789.out⟩, ⟨by (with_reducible repeat (first | refine blk_drewN ?_ _ | refine blk_drew ?_ | refine blk_alloc ?_ _)); exact BK790.out⟩, ⟨(zb1 HB)⟩⟩
    case rest =>
     clear HC20
     try clear c1
     try clear c2
     try clear p2
     try clear c3
     try clear p6
     try clear c7
     try clear c7b0
     try clear c7b1
     try clear c8
     try clear c9
     try clear c11
     try clear c12
     try clear c14
     try clear c16
     try clear c17
     try clear c18
     try clear c21
     try clear c22
     try clear c24
     try clear c26
     try clear c26b0
     try clear c27
     try clear c27b0
     try clear c27b1
     try clear c28
     try clear c29
     try clear c31
     try clear c32
     try clear hcz10_0
     try clear hcz10_1
     try clear hcz13_0
     try clear hcz13_1
     try clear hcz15_0
     try clear hcz15_1
     try clear hcz19_0
     try clear hcz19_1
     try clear hcz23_0
     try clear hcz23_1
     try clear hcz25_0
     try clear hcz25_1
     try clear hcz30_0
     try clear hcz30_1
     try clear hcz33_0
     try clear hcz33_1
     try clear hfz10_0
     try clear hfz10_1
     try clear hfz13_0
     try clear hfz13_1
     try clear hfz15_0
     try clear hfz15_1
     try clear hfz19_0
     try clear hfz19_1
     try clear hfz23_0
     try clear hfz23_1
     try clear hfz25_0
     try clear hfz25_1
     try clear hfz30_0
     try clear hfz30_1
     try clear hfz33_0
     try clear hfz33_1
     try clear p2
     try clear p6
     obtain ⟨kq, x6_19, x789000_19, rfl, HA, HJ19, BK788, BK789, BK790, HB⟩ := hcut
     cases kq with
     | zero => exact absurd HA.out (by simp [spec_dyMul.j2])
     | succ kj19 =>
      have H := HA.out
      clear HA
      simp only [spec_dyMul.j2] at H
      have HC34 := Aside0.mk H
      clear H
      go_upto_block 2 with (fail)
      repeat (go_quiet (fail); go_upto_block 2 with (fail))
      go_cut [6] (fun v6 wc => ∃ (kq : Nat) (x6_33 : Int) (x790000_33 : Int), v6 = .int .i64 x6_33 ∧ Aside0 (spec_dyMul.j4 kq x6_33 x789000_19 a0_1 x790000_33 a1_1 = some (r1, r2, r3)) ∧ Aside0 (kq ≤ kj19) ∧ Aside0 (wc.heap[gb788]? = some (.cells #[.int .i64 x789000_19, .int .i64 a0_1] 27 (0, 0))) ∧ Aside0 (wc.heap[gb789]? = some (.cells #[.int .i64 x790000_33, .int .i64 a1_1] 27 (0, 0))) ∧ Aside0 (wc.heap[gb790]? = some (.cells #[.int .i64 0, .int .i64 0] 27 (0, 0))) ∧ Aside0 (Below w.heap.size w wc))
      case first =>
       have H := HC34.out
       clear HC34
       have H' := Aside0.mk H
       clear H
       go_wp2
       repeat (go_quiet (fail); try go_wp2)
       go_loopg [6] kj19 (fun kq v6 w' => ∃ (x6_3 : Int) (x790000_3 : Int), v6 = .int .i64 x6_3 ∧ Aside0 (spec_dyMul.l1 kq x6_3 x789000_19 a0_1 x790000_3 a1_1 = some (r1, r2, r3)) ∧ Aside0 (kq ≤ kj19) ∧ Aside0 (w'.heap[gb788]? = some (.cells #[.int .i64 x789000_19, .int .i64 a0_1] 27 (0, 0))) ∧ Aside0 (w'.heap[gb789]? = some (.cells #[.int .i64 x790000_3, .int .i64 a1_1] 27 (0, 0))) ∧ Aside0 (w'.heap[gb790]? = some (.cells #[.int .i64 0, .int .i64 0] 27 (0, 0))) ∧ Aside0 (Below w.heap.size w w'))
       case atStart => exact ⟨(x6_19), (a1_0), (by first | rfl | (simp; done) | (simp [*]; done)), H', ⟨Nat.le_refl _⟩, ⟨by (with_reducible repeat (first | refine blk_drewN ?_ _ | refine blk_drew ?_ | refine blk_alloc ?_ _)); exact BK788.out⟩, ⟨by (with_reducible repeat (first | refine blk_drewN ?_ _ | refine blk_drew ?_ | refine blk_alloc ?_ _)); exact BK789.out⟩, ⟨by (with_reducible repeat (first | refine blk_drewN ?_ _ | refine blk_drew ?_ | refine blk_alloc ?_ _)); exact BK790.out⟩, ⟨(zb1 HB)⟩⟩
       case round =>
        clear H'
        try clear c1
        try clear c2
        try clear p2
        try clear c3
        try clear p6
        try clear c7
        try clear c7b0
        try clear c7b1
        try clear c8
        try clear c9
        try clear c11
        try clear c12
        try clear c14
        try clear c16
        try clear c17
        try clear c18
        try clear c21
        try clear c22
        try clear c24
        try clear c26
        try clear c26b0
        try clear c27
        try clear c27b0
        try clear c27b1
        try clear c28
        try clear c29
        try clear c31
        try clear c32
        try clear hcz10_0
        try clear hcz10_1
        try clear hcz13_0
        try clear hcz13_1
        try clear hcz15_0
        try clear hcz15_1
        try clear hcz19_0
        try clear hcz19_1
        try clear hcz23_0
        try clear hcz23_1
        try clear hcz25_0
        try clear hcz25_1
        try clear hcz30_0
        try clear hcz30_1
        try clear hcz33_0
        try clear hcz33_1
        try clear hfz10_0
        try clear hfz10_1
        try clear hfz13_0
        try clear hfz13_1
        try clear hfz15_0
        try clear hfz15_1
        try clear hfz19_0
        try clear hfz19_1
        try clear hfz23_0
        try clear hfz23_1
        try clear hfz25_0
        try clear hfz25_1
        try clear hfz30_0
        try clear hfz30_1
        try clear hfz33_0
        try clear hfz33_1
        try clear p2
        try clear p6
        obtain ⟨x6_3, x790000_3, rfl, HA, HK3, BK788, BK789, BK790, HB⟩ := hrel
        cases gk with
        | zero => exact absurd HA.out (by simp [spec_dyMul.l1])
        | succ k3 =>
         have H := HA.out
         clear HA
         simp only [spec_dyMul.l1] at H
         by_cases c35 : x6_3 > 0
         ·
          rw [if_pos c35] at H
          have c35b0 : decide (0 < x6_3) = true := decide_eq_true c35
          clear c35
          (first | rw [c35b0] | (simp only [i64_w, i32_w]; rw [c35b0]) | skip)
          by_cases c36 : (Int.tmod x790000_3 2) = 0
          ·
           rw [if_pos c36] at H
           have c36b0 : ((Int.tmod x790000_3 2) == 0) = true := beq_iff_eq.mpr c36
           have c36b1 : ((Int.tmod x790000_3 2) != 0) = false := bne_eq_false_iff_eq.mpr c36
           clear c36
           have H' := Aside0.mk H
           clear H
           have hnb37 := NB789_788.out
           have hnc37 := NB788_789.out
           have hnb38 := NB789_790.out
           have hnc38 := NB790_789.out
           have hcz39_0 : wr.cell? ⟨gb789, 0, none⟩ = some (.int .i64 x790000_3) := zc BK789 0
           have hcz39_1 : wr.cell? ⟨gb789, 1, none⟩ = some (.int .i64 a1_1) := zc BK789 1
           have hfz39_0 := blk_frozen BK789.out 0
           have hfz39_1 := blk_frozen BK789.out 1
           go_wp2
           repeat (go_quiet (fail); try go_wp2)
           go_roundg k3
           case measure => have := HJ2.out; have := HJ19.out; have := HK3.out; omega
           case rel => exact ⟨(wrap64 (x6_3 - 1)), (wrap64 (Int.tdiv x790000_3 2)), (by first | rfl | (simp; done) | (simp [*]; done)), H', ⟨by have := HJ2.out; have := HJ19.out; have := HK3.out; omega⟩, ⟨zq5 BK788⟩, ⟨by (with_reducible repeat (first | refine blk_drewN ?_ _ | refine blk_drew ?_ | refine blk_alloc ?_ _)); refine blk_put (cs := #[.int .i64 x790000_3, .int .i64 a1_1]) ?_ 0 _ rfl; (with_reducible repeat (first | refine blk_drewN ?_ _ | refine blk_drew ?_ | refine blk_alloc ?_ _)); exact BK789.out⟩, ⟨zq5 BK790⟩, ⟨(zb1 HB)⟩⟩
          ·
           rw [if_neg c36] at H
           have c36b0 : ((Int.tmod x790000_3 2) == 0) = false := beq_eq_false_iff_ne.mpr c36
           have c36b1 : ((Int.tmod x790000_3 2) != 0) = true := bne_iff_ne.mpr c36
           have H' := Aside0.mk H
           clear H
           have hnb40 := NB789_788.out
           have hnc40 := NB788_789.out
           have hnb41 := NB789_790.out
           have hnc41 := NB790_789.out
           have hcz42_0 : wr.cell? ⟨gb789, 0, none⟩ = some (.int .i64 x790000_3) := zc BK789 0
           have hcz42_1 : wr.cell? ⟨gb789, 1, none⟩ = some (.int .i64 a1_1) := zc BK789 1
           have hfz42_0 := blk_frozen BK789.out 0
           have hfz42_1 := blk_frozen BK789.out 1
           go_wp2
           repeat (go_quiet (fail); try go_wp2)
           go_meet
           case rel => exact ⟨_, (x6_3), (x790000_3), (by first | rfl | (simp; done) | (simp [*]; done)), H', ⟨by have := HJ2.out; have := HJ19.out; have := HK3.out; first | omega | exact Nat.le_refl _⟩, ⟨by (with_reducible repeat (first | refine blk_drewN ?_ _ | refine blk_drew ?_ | refine blk_alloc ?_ _)); exact BK788.out⟩, ⟨by (with_reducible repeat (first | refine blk_drewN ?_ _ | refine blk_drew ?_ | refine blk_alloc ?_ _)); exact BK789.out⟩, ⟨by (with_reducible repeat (first | refine blk_drewN ?_ _ | refine blk_drew ?_ | refine blk_alloc ?_ _)); exact BK790.out⟩, ⟨(zb1 HB)⟩⟩
         ·
          rw [if_neg c35] at H
          have c35b0 : decide (0 < x6_3) = false := decide_eq_false c35
          clear c35
          (first | rw [c35b0] | (simp only [i64_w, i32_w]; rw [c35b0]) | skip)
          have H' := Aside0.mk H
          clear H
          go_wp2
          repeat (go_quiet (fail); try go_wp2)
          go_meet
          case rel => exact ⟨_, (x6_3), (x790000_3), (by first | rfl | (simp; done) | (simp [*]; done)), H', ⟨by have := HJ2.out; have := HJ19.out; have := HK3.out; first | omega | exact Nat.le_refl _⟩, ⟨by (with_reducible repeat (first | refine blk_drewN ?_ _ | refine blk_drew ?_ | refine blk_alloc ?_ _)); exact BK788.out⟩, ⟨by (with_reducible repeat (first | refine blk_drewN ?_ _ | refine blk_drew ?_ | refine blk_alloc ?_ _)); exact BK789.out⟩, ⟨by (with_reducible repeat (first | refine blk_drewN ?_ _ | refine blk_drew ?_ | refine blk_alloc ?_ _)); exact BK790.out⟩, ⟨(zb1 HB)⟩⟩
      case rest =>
       clear HC34
       try clear c1
       try clear c2
       try clear p2
       try clear c3
       try clear c4
       try clear p6
       try clear c7
       try clear c7b0
       try clear c7b1
       try clear c8
       try clear c9
       try clear c11
       try clear c12
       try clear c14
       try clear c16
       try clear c17
       try clear c18
       try clear c21
       try clear c22
       try clear c24
       try clear c26
       try clear c26b0
       try clear c27
       try clear c27b0
       try clear c27b1
       try clear c28
       try clear c29
       try clear c31
       try clear c32
       try clear c35
       try clear c35b0
       try clear c36
       try clear c36b0
       try clear c36b1
       try clear c37
       try clear c38
       try clear c40
       try clear c41
       try clear hcz10_0
       try clear hcz10_1
       try clear hcz13_0
       try clear hcz13_1
       try clear hcz15_0
       try clear hcz15_1
       try clear hcz19_0
       try clear hcz19_1
       try clear hcz23_0
       try clear hcz23_1
       try clear hcz25_0
       try clear hcz25_1
       try clear hcz30_0
       try clear hcz30_1
       try clear hcz33_0
       try clear hcz33_1
       try clear hcz39_0
       try clear hcz39_1
       try clear hcz42_0
       try clear hcz42_1
       try clear hfz10_0
       try clear hfz10_1
       try clear hfz13_0
       try clear hfz13_1
       try clear hfz15_0
       try clear hfz15_1
       try clear hfz19_0
       try clear hfz19_1
       try clear hfz23_0
       try clear hfz23_1
       try clear hfz25_0
       try clear hfz25_1
       try clear hfz30_0
       try clear hfz30_1
       try clear hfz33_0
       try clear hfz33_1
       try clear hfz39_0
       try clear hfz39_1
       try clear hfz42_0
       try clear hfz42_1
       try clear p2
       try clear p6
       obtain ⟨kq, x6_33, x790000_33, rfl, HA, HJ33, BK788, BK789, BK790, HB⟩ := hcut
       cases kq with
       | zero => exact absurd HA.out (by simp [spec_dyMul.j4])
       | succ kj33 =>
        have H := HA.out
        clear HA
        simp only [spec_dyMul.j4] at H
        replace H := Option.bind_eq_some_iff.mp H
        obtain ⟨t791, A430, H⟩ := H
        replace H : ((spec_l1Abs.f x790000_33).bind fun t792 => (if t792 = 0 then (none) else (if t791 > (wrap64 (Int.tdiv (1099511627776 : Int) t792)) then (some (0, 0, false)) else ((spec_dyMake.f kj33 (wrap64 (x789000_19 * x790000_33)) x6_33).bind fun bt793 => (some (bt793.1, bt793.2.1, bt793.2.2)))))) = some (r1, r2, r3) := H
        have A43 := Aside0.mk A430
        clear A430
        replace H := Option.bind_eq_some_iff.mp H
        obtain ⟨t792, A440, H⟩ := H
        replace H : (if t792 = 0 then (none) else (if t791 > (wrap64 (Int.tdiv (1099511627776 : Int) t792)) then (some (0, 0, false)) else ((spec_dyMake.f kj33 (wrap64 (x789000_19 * x790000_33)) x6_33).bind fun bt793 => (some (bt793.1, bt793.2.1, bt793.2.2))))) = some (r1, r2, r3) := H
        have A44 := Aside0.mk A440
        clear A440
        by_cases c45 : t792 = 0
        ·
         rw [if_pos c45] at H
         exact absurd H (by simp)
        ·
         rw [if_neg c45] at H
         have c45b0 : (t792 == 0) = false := beq_eq_false_iff_ne.mpr c45
         have c45b1 : (t792 != 0) = true := bne_iff_ne.mpr c45
         by_cases c46 : t791 > (wrap64 (Int.tdiv (1099511627776 : Int) t792))
         ·
          rw [if_pos c46] at H
          have c46b0 : decide ((wrap64 (Int.tdiv (1099511627776 : Int) t792)) < t791) = true := decide_eq_true c46
          have c46b1 : decide ((IntKind.i64.wrap (Int.tdiv (1099511627776 : Int) t792)) < t791) = true := by simp only [i64_w]; exact decide_eq_true c46
          clear c46
          simp only [Option.some.injEq, Prod.mk.injEq] at H
          obtain ⟨rfl, rfl, rfl⟩ := H
          have hnb47 := NB788_789.out
          have hnc47 := NB789_788.out
          have hnb48 := NB788_790.out
          have hnc48 := NB790_788.out
          have hcz49_0 : wc.cell? ⟨gb788, 0, none⟩ = some (.int .i64 x789000_19) := zc BK788 0
          have hcz49_1 : wc.cell? ⟨gb788, 1, none⟩ = some (.int .i64 a0_1) := zc BK788 1
          have hfz49_0 := blk_frozen BK788.out 0
          have hfz49_1 := blk_frozen BK788.out 1
          go_wp2_with (first | (go_at_call 113; (with_reducible refine (spec_l1Abs.calls x789000_19 t791 _ A43.out).mono ?_); rintro e w' ⟨rfl, ⟨nd, rfl⟩⟩; (try first | exact ⟨rfl, _, World.drewN_drewN _ _ _⟩ | exact ⟨rfl, _, Eq.trans (World.drewN_drewN _ _ _) (congrArg (World.drewN _) (Nat.add_assoc _ _ _))⟩); have hnb50 := NB789_790.out; have hnc50 := NB790_789.out; have hcz51_0 : wc.cell? ⟨gb789, 0, none⟩ = some (.int .i64 x790000_33) := zc BK789 0; have hcz51_1 : wc.cell? ⟨gb789, 1, none⟩ = some (.int .i64 a1_1) := zc BK789 1; have hfz51_0 := blk_frozen BK789.out 0; have hfz51_1 := blk_frozen BK789.out 1) | (go_at_call 113; (with_reducible refine (spec_l1Abs.calls x790000_33 t792 _ A44.out).mono ?_); rintro e w' ⟨rfl, ⟨nd, rfl⟩⟩; (try first | exact ⟨rfl, _, World.drewN_drewN _ _ _⟩ | exact ⟨rfl, _, Eq.trans (World.drewN_drewN _ _ _) (congrArg (World.drewN _) (Nat.add_assoc _ _ _))⟩); have hcz52_0 : wc.cell? ⟨gb790, 0, none⟩ = some (.int .i64 0) := zc BK790 0; have hcz52_1 : wc.cell? ⟨gb790, 1, none⟩ = some (.int .i64 0) := zc BK790 1; have hfz52_0 := blk_frozen BK790.out 0; have hfz52_1 := blk_frozen BK790.out 1))
          repeat (go_quiet (first | (go_at_call 113; (with_reducible refine (spec_l1Abs.calls x789000_19 t791 _ A43.out).mono ?_); rintro e w' ⟨rfl, ⟨nd, rfl⟩⟩; (try first | exact ⟨rfl, _, World.drewN_drewN _ _ _⟩ | exact ⟨rfl, _, Eq.trans (World.drewN_drewN _ _ _) (congrArg (World.drewN _) (Nat.add_assoc _ _ _))⟩); have hnb50 := NB789_790.out; have hnc50 := NB790_789.out; have hcz51_0 : wc.cell? ⟨gb789, 0, none⟩ = some (.int .i64 x790000_33) := zc BK789 0; have hcz51_1 : wc.cell? ⟨gb789, 1, none⟩ = some (.int .i64 a1_1) := zc BK789 1; have hfz51_0 := blk_frozen BK789.out 0; have hfz51_1 := blk_frozen BK789.out 1) | (go_at_call 113; (with_reducible refine (spec_l1Abs.calls x790000_33 t792 _ A44.out).mono ?_); rintro e w' ⟨rfl, ⟨nd, rfl⟩⟩; (try first | exact ⟨rfl, _, World.drewN_drewN _ _ _⟩ | exact ⟨rfl, _, Eq.trans (World.drewN_drewN _ _ _) (congrArg (World.drewN _) (Nat.add_assoc _ _ _))⟩); have hcz52_0 : wc.cell? ⟨gb790, 0, none⟩ = some (.int .i64 0) := zc BK790 0; have hcz52_1 : wc.cell? ⟨gb790, 1, none⟩ = some (.int .i64 0) := zc BK790 1; have hfz52_0 := blk_frozen BK790.out 0; have hfz52_1 := blk_frozen BK790.out 1)); try go_wp2_with (first | (go_at_call 113; (with_reducible refine (spec_l1Abs.calls x789000_19 t791 _ A43.out).mono ?_); rintro e w' ⟨rfl, ⟨nd, rfl⟩⟩; (try first | exact ⟨rfl, _, World.drewN_drewN _ _ _⟩ | exact ⟨rfl, _, Eq.trans (World.drewN_drewN _ _ _) (congrArg (World.drewN _) (Nat.add_assoc _ _ _))⟩); have hnb50 := NB789_790.out; have hnc50 := NB790_789.out; have hcz51_0 : wc.cell? ⟨gb789, 0, none⟩ = some (.int .i64 x790000_33) := zc BK789 0; have hcz51_1 : wc.cell? ⟨gb789, 1, none⟩ = some (.int .i64 a1_1) := zc BK789 1; have hfz51_0 := blk_frozen BK789.out 0; have hfz51_1 := blk_frozen BK789.out 1) | (go_at_call 113; (with_reducible refine (spec_l1Abs.calls x790000_33 t792 _ A44.out).mono ?_); rintro e w' ⟨rfl, ⟨nd, rfl⟩⟩; (try first | exact ⟨rfl, _, World.drewN_drewN _ _ _⟩ | exact ⟨rfl, _, Eq.trans (World.drewN_drewN _ _ _) (congrArg (World.drewN _) (Nat.add_assoc _ _ _))⟩); have hcz52_0 : wc.cell? ⟨gb790, 0, none⟩ = some (.int .i64 0) := zc BK790 0; have hcz52_1 : wc.cell? ⟨gb790, 1, none⟩ = some (.int .i64 0) := zc BK790 1; have hfz52_0 := blk_frozen BK790.out 0; have hfz52_1 := blk_frozen BK790.out 1)))
          refine bodyPost_ret (results_ct rfl _ _ gb790 27 #[.int .i64 0, .int .i64 0] (0, 0) _ rfl (by (with_reducible repeat (first | refine blk_drewN ?_ _ | refine blk_drew ?_ | refine blk_alloc ?_ _)); refine blk_put (cs := #[.int .i64 0, .int .i64 0]) ?_ 1 _ rfl; (with_reducible repeat (first | refine blk_drewN ?_ _ | refine blk_drew ?_ | refine blk_alloc ?_ _)); refine blk_put (cs := #[.int .i64 0, .int .i64 0]) ?_ 0 _ rfl; (with_reducible repeat (first | refine blk_drewN ?_ _ | refine blk_drew ?_ | refine blk_alloc ?_ _)); exact BK790.out) Try.underlying27 rfl (by kernel_rfl)) rfl ?_
          exact ⟨by first | rfl | (simp [errW_none, errW_some] <;> rfl) | (simp [*, errW_none, errW_some] <;> rfl), (zb1 HB)⟩
         ·
          rw [if_neg c46] at H
          have c46b0 : decide ((wrap64 (Int.tdiv (1099511627776 : Int) t792)) < t791) = false := decide_eq_false c46
          have c46b1 : decide ((IntKind.i64.wrap (Int.tdiv (1099511627776 : Int) t792)) < t791) = false := by simp only [i64_w]; exact decide_eq_false c46
          clear c46
          replace H := Option.bind_eq_some_iff.mp H
          obtain ⟨⟨t793, t794, t795⟩, A530, H⟩ := H
          replace H : (some (t793, t794, t795)) = some (r1, r2, r3) := H
          have A53 := Aside0.mk A530
          clear A530
          simp only [Option.some.injEq, Prod.mk.injEq] at H
          obtain ⟨rfl, rfl, rfl⟩ := H
          have hnb54 := NB788_789.out
          have hnc54 := NB789_788.out
          have hnb55 := NB788_790.out
          have hnc55 := NB790_788.out
          have hcz56_0 : wc.cell? ⟨gb788, 0, none⟩ = some (.int .i64 x789000_19) := zc BK788 0
          have hcz56_1 : wc.cell? ⟨gb788, 1, none⟩ = some (.int .i64 a0_1) := zc BK788 1
          have hfz56_0 := blk_frozen BK788.out 0
          have hfz56_1 := blk_frozen BK788.out 1
          go_wp2_with (first | (go_at_call 113; (with_reducible refine (spec_l1Abs.calls x789000_19 t791 _ A43.out).mono ?_); rintro e w' ⟨rfl, ⟨nd, rfl⟩⟩; (try first | exact ⟨rfl, _, World.drewN_drewN _ _ _⟩ | exact ⟨rfl, _, Eq.trans (World.drewN_drewN _ _ _) (congrArg (World.drewN _) (Nat.add_assoc _ _ _))⟩); have hnb57 := NB789_790.out; have hnc57 := NB790_789.out; have hcz58_0 : wc.cell? ⟨gb789, 0, none⟩ = some (.int .i64 x790000_33) := zc BK789 0; have hcz58_1 : wc.cell? ⟨gb789, 1, none⟩ = some (.int .i64 a1_1) := zc BK789 1; have hfz58_0 := blk_frozen BK789.out 0; have hfz58_1 := blk_frozen BK789.out 1) | (go_at_call 113; (with_reducible refine (spec_l1Abs.calls x790000_33 t792 _ A44.out).mono ?_); rintro e w' ⟨rfl, ⟨nd, rfl⟩⟩; (try first | exact ⟨rfl, _, World.drewN_drewN _ _ _⟩ | exact ⟨rfl, _, Eq.trans (World.drewN_drewN _ _ _) (congrArg (World.drewN _) (Nat.add_assoc _ _ _))⟩)) | (go_at_call 107; (with_reducible refine (spec_dyMake.calls kj33 (wrap64 (x789000_19 * x790000_33)) x6_33 t793 t794 t795 _ A53.out).mono ?_); rintro e w59 ⟨rfl, hb⟩; replace BK788 := Aside0.mk (zbb BK788 hb); replace BK789 := Aside0.mk (zbb BK789 hb); replace BK790 := Aside0.mk (zbb BK790 hb); replace HB := Aside0.mk (below_step (zb1 HB) hb); (try clear hb); (try clear hb2); (try clear hk); (try clear hi); have hcz60_0 : w59.cell? ⟨gb790, 0, none⟩ = some (.int .i64 0) := zc BK790 0; have hcz60_1 : w59.cell? ⟨gb790, 1, none⟩ = some (.int .i64 0) := zc BK790 1; have hfz60_0 := blk_frozen BK790.out 0; have hfz60_1 := blk_frozen BK790.out 1))
          repeat (go_quiet (first | (go_at_call 113; (with_reducible refine (spec_l1Abs.calls x789000_19 t791 _ A43.out).mono ?_); rintro e w' ⟨rfl, ⟨nd, rfl⟩⟩; (try first | exact ⟨rfl, _, World.drewN_drewN _ _ _⟩ | exact ⟨rfl, _, Eq.trans (World.drewN_drewN _ _ _) (congrArg (World.drewN _) (Nat.add_assoc _ _ _))⟩); have hnb57 := NB789_790.out; have hnc57 := NB790_789.out; have hcz58_0 : wc.cell? ⟨gb789, 0, none⟩ = some (.int .i64 x790000_33) := zc BK789 0; have hcz58_1 : wc.cell? ⟨gb789, 1, none⟩ = some (.int .i64 a1_1) := zc BK789 1; have hfz58_0 := blk_frozen BK789.out 0; have hfz58_1 := blk_frozen BK789.out 1) | (go_at_call 113; (with_reducible refine (spec_l1Abs.calls x790000_33 t792 _ A44.out).mono ?_); rintro e w' ⟨rfl, ⟨nd, rfl⟩⟩; (try first | exact ⟨rfl, _, World.drewN_drewN _ _ _⟩ | exact ⟨rfl, _, Eq.trans (World.drewN_drewN _ _ _) (congrArg (World.drewN _) (Nat.add_assoc _ _ _))⟩)) | (go_at_call 107; (with_reducible refine (spec_dyMake.calls kj33 (wrap64 (x789000_19 * x790000_33)) x6_33 t793 t794 t795 _ A53.out).mono ?_); rintro e w59 ⟨rfl, hb⟩; replace BK788 := Aside0.mk (zbb BK788 hb); replace BK789 := Aside0.mk (zbb BK789 hb); replace BK790 := Aside0.mk (zbb BK790 hb); replace HB := Aside0.mk (below_step (zb1 HB) hb); (try clear hb); (try clear hb2); (try clear hk); (try clear hi); have hcz60_0 : w59.cell? ⟨gb790, 0, none⟩ = some (.int .i64 0) := zc BK790 0; have hcz60_1 : w59.cell? ⟨gb790, 1, none⟩ = some (.int .i64 0) := zc BK790 1; have hfz60_0 := blk_frozen BK790.out 0; have hfz60_1 := blk_frozen BK790.out 1)); try go_wp2_with (first | (go_at_call 113; (with_reducible refine (spec_l1Abs.calls x789000_19 t791 _ A43.out).mono ?_); rintro e w' ⟨rfl, ⟨nd, rfl⟩⟩; (try first | exact ⟨rfl, _, World.drewN_drewN _ _ _⟩ | exact ⟨rfl, _, Eq.trans (World.drewN_drewN _ _ _) (congrArg (World.drewN _) (Nat.add_assoc _ _ _))⟩); have hnb57 := NB789_790.out; have hnc57 := NB790_789.out; have hcz58_0 : wc.cell? ⟨gb789, 0, none⟩ = some (.int .i64 x790000_33) := zc BK789 0; have hcz58_1 : wc.cell? ⟨gb789, 1, none⟩ = some (.int .i64 a1_1) := zc BK789 1; have hfz58_0 := blk_frozen BK789.out 0; have hfz58_1 := blk_frozen BK789.out 1) | (go_at_call 113; (with_reducible refine (spec_l1Abs.calls x790000_33 t792 _ A44.out).mono ?_); rintro e w' ⟨rfl, ⟨nd, rfl⟩⟩; (try first | exact ⟨rfl, _, World.drewN_drewN _ _ _⟩ | exact ⟨rfl, _, Eq.trans (World.drewN_drewN _ _ _) (congrArg (World.drewN _) (Nat.add_assoc _ _ _))⟩)) | (go_at_call 107; (with_reducible refine (spec_dyMake.calls kj33 (wrap64 (x789000_19 * x790000_33)) x6_33 t793 t794 t795 _ A53.out).mono ?_); rintro e w59 ⟨rfl, hb⟩; replace BK788 := Aside0.mk (zbb BK788 hb); replace BK789 := Aside0.mk (zbb BK789 hb); replace BK790 := Aside0.mk (zbb BK790 hb); replace HB := Aside0.mk (below_step (zb1 HB) hb); (try clear hb); (try clear hb2); (try clear hk); (try clear hi); have hcz60_0 : w59.cell? ⟨gb790, 0, none⟩ = some (.int .i64 0) := zc BK790 0; have hcz60_1 : w59.cell? ⟨gb790, 1, none⟩ = some (.int .i64 0) := zc BK790 1; have hfz60_0 := blk_frozen BK790.out 0; have hfz60_1 := blk_frozen BK790.out 1)))
          refine bodyPost_ret (results_ct rfl _ _ gb790 27 #[.int .i64 t793, .int .i64 t794] (0, 0) _ rfl (by (with_reducible repeat (first | refine blk_drewN ?_ _ | refine blk_drew ?_ | refine blk_alloc ?_ _)); refine blk_put (cs := #[.int .i64 t793, .int .i64 0]) ?_ 1 _ rfl; (with_reducible repeat (first | refine blk_drewN ?_ _ | refine blk_drew ?_ | refine blk_alloc ?_ _)); refine blk_put (cs := #[.int .i64 0, .int .i64 0]) ?_ 0 _ rfl; (with_reducible repeat (first | refine blk_drewN ?_ _ | refine blk_drew ?_ | refine blk_alloc ?_ _)); exact BK790.out) Try.underlying27 rfl (by kernel_rfl)) rfl ?_
          exact ⟨by first | rfl | (simp [errW_none, errW_some] <;> rfl) | (simp [*, errW_none, errW_some] <;> rfl), (zb1 HB)⟩
end Go.Proofs.Ytinpcalgdiigiaa.PD
