-- By wip/mk/drv.py
import Derived.Test.YtgaoniapddpaaaaQCornOfPDx0
import Derived.Test.YtgaoniapddpaaaaQCornOfPDx1
import Derived.Test.YtgaoniapddpaaaaQCornOfPDx3
import Derived.Test.YtgaoniapddpaaaaQCornOfPDx20
namespace Go.Proofs.Ytgaoniapddpaaaa.PD
open Go.RowKit Go.Proofs.YtgaoniapddpaaaaW.PrintWords Go.Proofs.YtgaoniapddpaaaaW.PrintLast Go.Proofs.YtgaoniapddpaaaaW.PrintMore
attribute [local go_sem] max2_int min2_int max_two min_two max_three min_three max_four min_four
set_option linter.unusedVariables false
set_option linter.unusedSimpArgs false
/-! ### impl_wide_fit: function 95 -/
set_option maxHeartbeats 8000000 in
set_option maxRecDepth 100000 in
theorem impl_wide_fit.calls (k : Nat) (a0_0 : Bool) (a0_1 : Int) (a0_2 : Int) (a1 : Int) (r1 : Int) (r2 : Int) (r3 : Bool) (w : World) (h : impl_wide_fit.f k a0_0 a0_1 a0_2 a1 = some (r1, r2, r3)) :
  Calls Try.prog 95 #[.agg #[.bool a0_0, .int .u64 a0_1, .int .u64 a0_2], .int .i64 a1] w fun e w' => e = .returned (.tuple #[.agg #[.int .i64 r1, .int .i64 r2], .bool r3]) ∧ Below w.heap.size w w' := by
 have hu97 := Try.underlying97
 have hu37 := Try.underlying37
 have HB := Aside0.mk (Below.refl w.heap.size w)
 have H : ((impl_wide_isZero.f a0_0 a0_1 a0_2).bind fun t345 => (if t345 = true then (some (0, 0, true)) else (impl_wide_fit.l0 k a1 a0_0 a0_1 a0_2))) = some (r1, r2, r3) := h
 clear h
 replace H := Option.bind_eq_some_iff.mp H
 obtain ⟨t345, A30, H⟩ := H
 replace H : (if t345 = true then (some (0, 0, true)) else (impl_wide_fit.l0 k a1 a0_0 a0_1 a0_2)) = some (r1, r2, r3) := H
 have A3 := Aside0.mk A30
 clear A30
 by_cases c4 : t345 = true
 ·
  subst c4
  have H1 : (some (0, 0, true)) = some (r1, r2, r3) := by rw [if_pos rfl] at H; exact H
  clear H
  have H := H1
  clear H1
  simp only [Option.some.injEq, Prod.mk.injEq] at H
  obtain ⟨rfl, rfl, rfl⟩ := H
  go_enter Try.func95, Try.ntmps95
  go_wp2_with (first | ((with_reducible refine gate_dst (N := 2) rfl ?_); refine zbe (N := 2) (cs := #[.bool a0_0, .int .u64 a0_1, .int .u64 a0_2]) (t := 97) ?_; intro gb343 hg w5 hbox hb; have BK343 := Aside0.mk (hbox); have GW343 := Aside0.mk (zge (zb0 HB) hg); have GE343 := GW343; replace HB := Aside0.mk (below_step (zb0 HB) hb); clear hb hbox hg) | ((with_reducible refine gate_dst (N := 4) rfl ?_); refine zbe (N := 4) (cs := #[.int .i64 0, .int .i64 0]) (t := 37) ?_; intro gb344 hg w6 hbox hb; have BK344 := Aside0.mk (hbox); have GW344 := Aside0.mk (zge (zb1 HB) hg); have GE344 := GW344; have NB343_344 := Aside0.mk (zlt BK343 hg); have NB344_343 := Aside0.mk (zgt BK343 hg); replace BK343 := Aside0.mk (zbb BK343 hb); replace HB := Aside0.mk (below_step (zb1 HB) hb); clear hb hbox hg; have hnb7 := NB343_344.out; have hnc7 := NB344_343.out; have hcz8_0 : w6.cell? ⟨gb343, 0, none⟩ = some (.bool a0_0) := zc BK343 0; have hcz8_1 : w6.cell? ⟨gb343, 1, none⟩ = some (.int .u64 a0_1) := zc BK343 1; have hcz8_2 : w6.cell? ⟨gb343, 2, none⟩ = some (.int .u64 a0_2) := zc BK343 2; have hfz8_0 := blk_frozen BK343.out 0; have hfz8_1 := blk_frozen BK343.out 1; have hfz8_2 := blk_frozen BK343.out 2) | ((with_reducible refine gate_callee (f := 105) rfl ?_); refine goesL_ (some 8) rfl rfl Try.func105 (by kernel_rfl) rfl #[.agg #[.bool a0_0, .int .u64 a0_1, .int .u64 a0_2]] rfl zq6 ?_; (with_reducible refine (impl_wide_isZero.calls a0_0 a0_1 a0_2 true _ A3.out).mono ?_); rintro e w9 ⟨rfl, hb⟩; refine ⟨_, rfl, ?_⟩; replace BK343 := Aside0.mk (zbb BK343 hb); replace BK344 := Aside0.mk (zbb BK344 hb); replace HB := Aside0.mk (below_step (zb1 HB) hb); (try clear hb); (try clear hb2); (try clear hk); (try clear hi); have hcz10_0 : w9.cell? ⟨gb344, 0, none⟩ = some (.int .i64 0) := zc BK344 0; have hcz10_1 : w9.cell? ⟨gb344, 1, none⟩ = some (.int .i64 0) := zc BK344 1; have hfz10_0 := blk_frozen BK344.out 0; have hfz10_1 := blk_frozen BK344.out 1))
  refine bodyPost_ret (results_ct rfl _ _ gb344 37 #[.int .i64 0, .int .i64 0] (0, 0) _ rfl (by (with_reducible repeat (first | refine blk_drewN ?_ _ | refine blk_drew ?_ | refine blk_alloc ?_ _)); refine blk_put (cs := #[.int .i64 0, .int .i64 0]) ?_ 1 _ rfl; (with_reducible repeat (first | refine blk_drewN ?_ _ | refine blk_drew ?_ | refine blk_alloc ?_ _)); refine blk_put (cs := #[.int .i64 0, .int .i64 0]) ?_ 0 _ rfl; (with_reducible repeat (first | refine blk_drewN ?_ _ | refine blk_drew ?_ | refine blk_alloc ?_ _)); exact BK344.out) Try.underlying37 rfl (by kernel_rfl)) rfl ?_
  exact ⟨by first | rfl | (simp [errW_none, errW_some] <;> rfl) | (simp [*, errW_none, errW_some] <;> rfl), (zb1 HB)⟩
 ·
  replace c4 := Bool.eq_false_iff.mpr c4
  subst c4
  have H1 : (impl_wide_fit.l0 k a1 a0_0 a0_1 a0_2) = some (r1, r2, r3) := by rw [if_neg (show ¬ (false = true) by decide)] at H; exact H
  clear H
  have H := H1
  clear H1
  have HC11 := Aside0.mk H
  clear H
  go_enter Try.func95, Try.ntmps95
  go_upto_block 0 with (first | ((with_reducible refine gate_dst (N := 2) rfl ?_); refine zbe (N := 2) (cs := #[.bool a0_0, .int .u64 a0_1, .int .u64 a0_2]) (t := 97) ?_; intro gb343 hg w12 hbox hb; have BK343 := Aside0.mk (hbox); have GW343 := Aside0.mk (zge (zb0 HB) hg); have GE343 := GW343; replace HB := Aside0.mk (below_step (zb0 HB) hb); clear hb hbox hg) | ((with_reducible refine gate_dst (N := 4) rfl ?_); refine zbe (N := 4) (cs := #[.int .i64 0, .int .i64 0]) (t := 37) ?_; intro gb344 hg w13 hbox hb; have BK344 := Aside0.mk (hbox); have GW344 := Aside0.mk (zge (zb1 HB) hg); have GE344 := GW344; have NB343_344 := Aside0.mk (zlt BK343 hg); have NB344_343 := Aside0.mk (zgt BK343 hg); replace BK343 := Aside0.mk (zbb BK343 hb); replace HB := Aside0.mk (below_step (zb1 HB) hb); clear hb hbox hg; have hnb14 := NB343_344.out; have hnc14 := NB344_343.out; have hcz15_0 : w13.cell? ⟨gb343, 0, none⟩ = some (.bool a0_0) := zc BK343 0; have hcz15_1 : w13.cell? ⟨gb343, 1, none⟩ = some (.int .u64 a0_1) := zc BK343 1; have hcz15_2 : w13.cell? ⟨gb343, 2, none⟩ = some (.int .u64 a0_2) := zc BK343 2; have hfz15_0 := blk_frozen BK343.out 0; have hfz15_1 := blk_frozen BK343.out 1; have hfz15_2 := blk_frozen BK343.out 2) | ((with_reducible refine gate_callee (f := 105) rfl ?_); refine goesL_ (some 8) rfl rfl Try.func105 (by kernel_rfl) rfl #[.agg #[.bool a0_0, .int .u64 a0_1, .int .u64 a0_2]] rfl zq6 ?_; (with_reducible refine (impl_wide_isZero.calls a0_0 a0_1 a0_2 false _ A3.out).mono ?_); rintro e w16 ⟨rfl, hb⟩; refine ⟨_, rfl, ?_⟩; replace BK343 := Aside0.mk (zbb BK343 hb); replace BK344 := Aside0.mk (zbb BK344 hb); replace HB := Aside0.mk (below_step (zb1 HB) hb); (try clear hb); (try clear hb2); (try clear hk); (try clear hi)))
  (try simp only [Act.put, List.setIfInBounds_toArray, List.set_cons_zero, List.set_cons_succ])
  go_cut [1] (fun v1 wc => ∃ (kq : Nat) (x1_10 : Int) (x344000_10 : Bool) (x344001_10 : Int) (x344002_10 : Int), v1 = .int .i64 x1_10 ∧ Aside0 (impl_wide_fit.j1 kq x1_10 x344000_10 x344001_10 x344002_10 = some (r1, r2, r3)) ∧ Aside0 (kq ≤ k) ∧ Aside0 (wc.heap[gb343]? = some (.cells #[.bool x344000_10, .int .u64 x344001_10, .int .u64 x344002_10] 97 (0, 0))) ∧ Aside0 (wc.heap[gb344]? = some (.cells #[.int .i64 0, .int .i64 0] 37 (0, 0))) ∧ Aside0 (Below w.heap.size w wc))
  case first =>
   have H := HC11.out
   clear HC11
   have H' := Aside0.mk H
   clear H
   go_wp2
   go_loopg [1] k (fun kq v1 w' => ∃ (x1_1 : Int) (x344000_1 : Bool) (x344001_1 : Int) (x344002_1 : Int), v1 = .int .i64 x1_1 ∧ Aside0 (impl_wide_fit.l0 kq x1_1 x344000_1 x344001_1 x344002_1 = some (r1, r2, r3)) ∧ Aside0 (kq ≤ k) ∧ Aside0 (w'.heap[gb343]? = some (.cells #[.bool x344000_1, .int .u64 x344001_1, .int .u64 x344002_1] 97 (0, 0))) ∧ Aside0 (w'.heap[gb344]? = some (.cells #[.int .i64 0, .int .i64 0] 37 (0, 0))) ∧ Aside0 (Below w.heap.size w w'))
   case atStart => exact ⟨(a1), (a0_0), (a0_1), (a0_2), (by first | rfl | (simp; done) | (simp [*]; done)), H', ⟨Nat.le_refl _⟩, ⟨by (with_reducible repeat (first | refine blk_drewN ?_ _ | refine blk_drew ?_ | refine blk_alloc ?_ _)); exact BK343.out⟩, ⟨by (with_reducible repeat (first | refine blk_drewN ?_ _ | refine blk_drew ?_ | refine blk_alloc ?_ _)); exact BK344.out⟩, ⟨(zb1 HB)⟩⟩
   case round =>
    clear H'
    try clear c1
    try clear p2
    try clear c4
    try clear c7
    try clear c9
    try clear c10
    try clear c14
    try clear hcz10_0
    try clear hcz10_1
    try clear hcz15_0
    try clear hcz15_1
    try clear hcz15_2
    try clear hcz8_0
    try clear hcz8_1
    try clear hcz8_2
    try clear hfz10_0
    try clear hfz10_1
    try clear hfz15_0
    try clear hfz15_1
    try clear hfz15_2
    try clear hfz8_0
    try clear hfz8_1
    try clear hfz8_2
    obtain ⟨x1_1, x344000_1, x344001_1, x344002_1, rfl, HA, HK1, BK343, BK344, HB⟩ := hrel
    cases gk with
    | zero => exact absurd HA.out (by simp [impl_wide_fit.l0])
    | succ k1 =>
     have H := HA.out
     clear HA
     simp only [impl_wide_fit.l0] at H
     by_cases c17 : x1_1 > 0
     ·
      rw [if_pos c17] at H
      have c17b0 : decide (0 < x1_1) = true := decide_eq_true c17
      clear c17
      (first | rw [c17b0] | (simp only [i64_w, i32_w]; rw [c17b0]) | skip)
      by_cases c18 : (Int.tmod x344002_1 2) = 0
      ·
       rw [if_pos c18] at H
       have c18b0 : ((Int.tmod x344002_1 2) == 0) = true := beq_iff_eq.mpr c18
       have c18b1 : ((Int.tmod x344002_1 2) != 0) = false := bne_eq_false_iff_eq.mpr c18
       clear c18
       replace H := Option.bind_eq_some_iff.mp H
       obtain ⟨⟨t346, t347, t348⟩, A190, H⟩ := H
       replace H : (impl_wide_fit.l0 k1 (wrap64 (x1_1 - 1)) t346 t347 t348) = some (r1, r2, r3) := H
       have A19 := Aside0.mk A190
       clear A190
       have H' := Aside0.mk H
       clear H
       have hnb20 := NB343_344.out
       have hnc20 := NB344_343.out
       have hcz21_0 : wr.cell? ⟨gb343, 0, none⟩ = some (.bool x344000_1) := zc BK343 0
       have hcz21_1 : wr.cell? ⟨gb343, 1, none⟩ = some (.int .u64 x344001_1) := zc BK343 1
       have hcz21_2 : wr.cell? ⟨gb343, 2, none⟩ = some (.int .u64 x344002_1) := zc BK343 2
       have hfz21_0 := blk_frozen BK343.out 0
       have hfz21_1 := blk_frozen BK343.out 1
       have hfz21_2 := blk_frozen BK343.out 2
       go_wp2_with (first | ((with_reducible refine gate_callee (f := 106) rfl ?_); refine goesL_ (some 19) rfl rfl Try.func106 (by kernel_rfl) rfl #[.agg #[.bool x344000_1, .int .u64 x344001_1, .int .u64 x344002_1], .int .i64 (-1)] rfl zq6 ?_; (with_reducible refine (impl_wide_shift.calls x344000_1 x344001_1 x344002_1 (-1) t346 t347 t348 _ A19.out).mono ?_); rintro e w22 ⟨rfl, hb⟩; refine ⟨_, rfl, ?_⟩; replace BK343 := Aside0.mk (zbb BK343 hb); replace BK344 := Aside0.mk (zbb BK344 hb); replace HB := Aside0.mk (below_step (zb1 HB) hb); (try clear hb); (try clear hb2); (try clear hk); (try clear hi); have hcz23_0 : w22.cell? ⟨gb343, 0, none⟩ = some (.bool x344000_1) := zc BK343 0; have hcz23_1 : w22.cell? ⟨gb343, 1, none⟩ = some (.int .u64 x344001_1) := zc BK343 1; have hcz23_2 : w22.cell? ⟨gb343, 2, none⟩ = some (.int .u64 x344002_1) := zc BK343 2; have hfz23_0 := blk_frozen BK343.out 0; have hfz23_1 := blk_frozen BK343.out 1; have hfz23_2 := blk_frozen BK343.out 2))
       go_roundg k1
       case measure => have := HK1.out; omega
       case rel => exact ⟨(wrap64 (x1_1 - 1)), (t346), (t347), (t348), (by first | rfl | (simp; done) | (simp [*]; done)), H', ⟨by have := HK1.out; omega⟩, ⟨by (with_reducible repeat (first | refine blk_drewN ?_ _ | refine blk_drew ?_ | refine blk_alloc ?_ _)); refine blk_put (cs := #[.bool t346, .int .u64 t347, .int .u64 x344002_1]) ?_ 2 _ rfl; (with_reducible repeat (first | refine blk_drewN ?_ _ | refine blk_drew ?_ | refine blk_alloc ?_ _)); refine blk_put (cs := #[.bool t346, .int .u64 x344001_1, .int .u64 x344002_1]) ?_ 1 _ rfl; (with_reducible repeat (first | refine blk_drewN ?_ _ | refine blk_drew ?_ | refine blk_alloc ?_ _)); refine blk_put (cs := #[.bool x344000_1, .int .u64 x344001_1, .int .u64 x344002_1]) ?_ 0 _ rfl; (with_reducible repeat (first | refine blk_drewN ?_ _ | refine blk_drew ?_ | refine blk_alloc ?_ _)); exact BK343.out⟩, ⟨zq5 BK344⟩, ⟨(zb1 HB)⟩⟩
      ·
       rw [if_neg c18] at H
       have c18b0 : ((Int.tmod x344002_1 2) == 0) = false := beq_eq_false_iff_ne.mpr c18
       have c18b1 : ((Int.tmod x344002_1 2) != 0) = true := bne_iff_ne.mpr c18
       have H' := Aside0.mk H
       clear H
       have hnb24 := NB343_344.out
       have hnc24 := NB344_343.out
       have hcz25_0 : wr.cell? ⟨gb343, 0, none⟩ = some (.bool x344000_1) := zc BK343 0
       have hcz25_1 : wr.cell? ⟨gb343, 1, none⟩ = some (.int .u64 x344001_1) := zc BK343 1
       have hcz25_2 : wr.cell? ⟨gb343, 2, none⟩ = some (.int .u64 x344002_1) := zc BK343 2
       have hfz25_0 := blk_frozen BK343.out 0
       have hfz25_1 := blk_frozen BK343.out 1
       have hfz25_2 := blk_frozen BK343.out 2
       go_wp2
       go_meet
       case rel => exact ⟨_, (x1_1), (x344000_1), (x344001_1), (x344002_1), (by first | rfl | (simp; done) | (simp [*]; done)), H', ⟨by have := HK1.out; first | omega | exact Nat.le_refl _⟩, ⟨by (with_reducible repeat (first | refine blk_drewN ?_ _ | refine blk_drew ?_ | refine blk_alloc ?_ _)); exact BK343.out⟩, ⟨by (with_reducible repeat (first | refine blk_drewN ?_ _ | refine blk_drew ?_ | refine blk_alloc ?_ _)); exact BK344.out⟩, ⟨(zb1 HB)⟩⟩
     ·
      rw [if_neg c17] at H
      have c17b0 : decide (0 < x1_1) = false := decide_eq_false c17
      clear c17
      (first | rw [c17b0] | (simp only [i64_w, i32_w]; rw [c17b0]) | skip)
      have H' := Aside0.mk H
      clear H
      go_wp2
      go_meet
      case rel => exact ⟨_, (x1_1), (x344000_1), (x344001_1), (x344002_1), (by first | rfl | (simp; done) | (simp [*]; done)), H', ⟨by have := HK1.out; first | omega | exact Nat.le_refl _⟩, ⟨by (with_reducible repeat (first | refine blk_drewN ?_ _ | refine blk_drew ?_ | refine blk_alloc ?_ _)); exact BK343.out⟩, ⟨by (with_reducible repeat (first | refine blk_drewN ?_ _ | refine blk_drew ?_ | refine blk_alloc ?_ _)); exact BK344.out⟩, ⟨(zb1 HB)⟩⟩
  case rest =>
   clear HC11
   try clear c1
   try clear c2
   try clear p2
   try clear c4
   try clear p6
   try clear c7
   try clear c9
   try clear c10
   try clear c14
   try clear c17
   try clear c17b0
   try clear c18
   try clear c18b0
   try clear c18b1
   try clear c20
   try clear c24
   try clear hcz10_0
   try clear hcz10_1
   try clear hcz15_0
   try clear hcz15_1
   try clear hcz15_2
   try clear hcz21_0
   try clear hcz21_1
   try clear hcz21_2
   try clear hcz23_0
   try clear hcz23_1
   try clear hcz23_2
   try clear hcz25_0
   try clear hcz25_1
   try clear hcz25_2
   try clear hcz8_0
   try clear hcz8_1
   try clear hcz8_2
   try clear hfz10_0
   try clear hfz10_1
   try clear hfz15_0
   try clear hfz15_1
   try clear hfz15_2
   try clear hfz21_0
   try clear hfz21_1
   try clear hfz21_2
   try clear hfz23_0
   try clear hfz23_1
   try clear hfz23_2
   try clear hfz25_0
   try clear hfz25_1
   try clear hfz25_2
   try clear hfz8_0
   try clear hfz8_1
   try clear hfz8_2
   try clear p2
   obtain ⟨kq, x1_10, x344000_10, x344001_10, x344002_10, rfl, HA, HJ10, BK343, BK344, HB⟩ := hcut
   cases kq with
   | zero => exact absurd HA.out (by simp [impl_wide_fit.j1])
   | succ kj10 =>
    have H := HA.out
    clear HA
    simp only [impl_wide_fit.j1] at H
    have HC26 := Aside0.mk H
    clear H
    go_upto_region 6 with (fail)
    go_cut [33] (fun v33 wc => ∃ (kq : Nat) (x33_25 : Bool), v33 = .bool x33_25 ∧ Aside0 (impl_wide_fit.j2 kq x1_10 x33_25 x344000_10 x344001_10 x344002_10 = some (r1, r2, r3)) ∧ Aside0 (kq ≤ kj10) ∧ Aside0 (wc.heap[gb343]? = some (.cells #[.bool x344000_10, .int .u64 x344001_10, .int .u64 x344002_10] 97 (0, 0))) ∧ Aside0 (wc.heap[gb344]? = some (.cells #[.int .i64 0, .int .i64 0] 37 (0, 0))) ∧ Aside0 (Below w.heap.size w wc))
    case first =>
     have H := HC26.out
     clear HC26
     by_cases c27 : x1_10 > 24
     ·
      rw [if_pos c27] at H
      have c27b0 : decide (24 < x1_10) = true := decide_eq_true c27
      clear c27
      (first | rw [c27b0] | (simp only [i64_w, i32_w]; rw [c27b0]) | skip)
      have H' := Aside0.mk H
      clear H
      go_wp2
      go_meet
      case rel => exact ⟨_, (true), (by first | rfl | (simp; done) | (simp [*]; done)), H', ⟨by have := HJ10.out; first | omega | exact Nat.le_refl _⟩, ⟨by (with_reducible repeat (first | refine blk_drewN ?_ _ | refine blk_drew ?_ | refine blk_alloc ?_ _)); exact BK343.out⟩, ⟨by (with_reducible repeat (first | refine blk_drewN ?_ _ | refine blk_drew ?_ | refine blk_alloc ?_ _)); exact BK344.out⟩, ⟨(zb1 HB)⟩⟩
     ·
      rw [if_neg c27] at H
      have c27b0 : decide (24 < x1_10) = false := decide_eq_false c27
      clear c27
      (first | rw [c27b0] | (simp only [i64_w, i32_w]; rw [c27b0]) | skip)
      by_cases c28 : x344001_10 > 0
      ·
       rw [if_pos c28] at H
       have c28b0 : decide (0 < x344001_10) = true := decide_eq_true c28
       clear c28
       have H' := Aside0.mk H
       clear H
       have hnb29 := NB343_344.out
       have hnc29 := NB344_343.out
       have hcz30_0 : wc.cell? ⟨gb343, 0, none⟩ = some (.bool x344000_10) := zc BK343 0
       have hcz30_1 : wc.cell? ⟨gb343, 1, none⟩ = some (.int .u64 x344001_10) := zc BK343 1
       have hcz30_2 : wc.cell? ⟨gb343, 2, none⟩ = some (.int .u64 x344002_10) := zc BK343 2
       have hfz30_0 := blk_frozen BK343.out 0
       have hfz30_1 := blk_frozen BK343.out 1
       have hfz30_2 := blk_frozen BK343.out 2
       go_wp2
       go_meet
       case rel => exact ⟨_, (true), (by first | rfl | (simp; done) | (simp [*]; done)), H', ⟨by have := HJ10.out; first | omega | exact Nat.le_refl _⟩, ⟨by (with_reducible repeat (first | refine blk_drewN ?_ _ | refine blk_drew ?_ | refine blk_alloc ?_ _)); exact BK343.out⟩, ⟨by (with_reducible repeat (first | refine blk_drewN ?_ _ | refine blk_drew ?_ | refine blk_alloc ?_ _)); exact BK344.out⟩, ⟨(zb1 HB)⟩⟩
      ·
       rw [if_neg c28] at H
       have c28b0 : decide (0 < x344001_10) = false := decide_eq_false c28
       clear c28
       have H' := Aside0.mk H
       clear H
       have hnb31 := NB343_344.out
       have hnc31 := NB344_343.out
       have hcz32_0 : wc.cell? ⟨gb343, 0, none⟩ = some (.bool x344000_10) := zc BK343 0
       have hcz32_1 : wc.cell? ⟨gb343, 1, none⟩ = some (.int .u64 x344001_10) := zc BK343 1
       have hcz32_2 : wc.cell? ⟨gb343, 2, none⟩ = some (.int .u64 x344002_10) := zc BK343 2
       have hfz32_0 := blk_frozen BK343.out 0
       have hfz32_1 := blk_frozen BK343.out 1
       have hfz32_2 := blk_frozen BK343.out 2
       go_wp2
       go_meet
       case rel => exact ⟨_, (decide (x344002_10 > 1099511627776)), (by first | rfl | (simp; done) | (simp [*]; done)), H', ⟨by have := HJ10.out; first | omega | exact Nat.le_refl _⟩, ⟨by (with_reducible repeat (first | refine blk_drewN ?_ _ | refine blk_drew ?_ | refine blk_alloc ?_ _)); exact BK343.out⟩, ⟨by (with_reducible repeat (first | refine blk_drewN ?_ _ | refine blk_drew ?_ | refine blk_alloc ?_ _)); exact BK344.out⟩, ⟨(zb1 HB)⟩⟩
    case rest =>
     clear HC26
     try clear c1
     try clear c2
     try clear p2
     try clear c3
     try clear c4
     try clear p6
     try clear c7
     try clear c9
     try clear c10
     try clear c14
     try clear c17
     try clear c17b0
     try clear c18
     try clear c18b0
     try clear c18b1
     try clear c20
     try clear c24
     try clear c27
     try clear c27b0
     try clear c28
     try clear c28b0
     try clear c29
     try clear c31
     try clear hcz10_0
     try clear hcz10_1
     try clear hcz15_0
     try clear hcz15_1
     try clear hcz15_2
     try clear hcz21_0
     try clear hcz21_1
     try clear hcz21_2
     try clear hcz23_0
     try clear hcz23_1
     try clear hcz23_2
     try clear hcz25_0
     try clear hcz25_1
     try clear hcz25_2
     try clear hcz30_0
     try clear hcz30_1
     try clear hcz30_2
     try clear hcz32_0
     try clear hcz32_1
     try clear hcz32_2
     try clear hcz8_0
     try clear hcz8_1
     try clear hcz8_2
     try clear hfz10_0
     try clear hfz10_1
     try clear hfz15_0
     try clear hfz15_1
     try clear hfz15_2
     try clear hfz21_0
     try clear hfz21_1
     try clear hfz21_2
     try clear hfz23_0
     try clear hfz23_1
     try clear hfz23_2
     try clear hfz25_0
     try clear hfz25_1
     try clear hfz25_2
     try clear hfz30_0
     try clear hfz30_1
     try clear hfz30_2
     try clear hfz32_0
     try clear hfz32_1
     try clear hfz32_2
     try clear hfz8_0
     try clear hfz8_1
     try clear hfz8_2
     try clear p2
     try clear p6
     obtain ⟨kq, x33_25, rfl, HA, HJ25, BK343, BK344, HB⟩ := hcut
     cases kq with
     | zero => exact absurd HA.out (by simp [impl_wide_fit.j2])
     | succ kj25 =>
      have H := HA.out
      clear HA
      simp only [impl_wide_fit.j2] at H
      by_cases c33 : x33_25 = true
      ·
       subst c33
       have H1 : (some (0, 0, false)) = some (r1, r2, r3) := by rw [if_pos rfl] at H; exact H
       clear H
       have H := H1
       clear H1
       simp only [Option.some.injEq, Prod.mk.injEq] at H
       obtain ⟨rfl, rfl, rfl⟩ := H
       have hnb34 := NB344_343.out
       have hnc34 := NB343_344.out
       have hcz35_0 : wc.cell? ⟨gb344, 0, none⟩ = some (.int .i64 0) := zc BK344 0
       have hcz35_1 : wc.cell? ⟨gb344, 1, none⟩ = some (.int .i64 0) := zc BK344 1
       have hfz35_0 := blk_frozen BK344.out 0
       have hfz35_1 := blk_frozen BK344.out 1
       go_wp2
       refine bodyPost_ret (results_ct rfl _ _ gb344 37 #[.int .i64 0, .int .i64 0] (0, 0) _ rfl (by (with_reducible repeat (first | refine blk_drewN ?_ _ | refine blk_drew ?_ | refine blk_alloc ?_ _)); refine blk_put (cs := #[.int .i64 0, .int .i64 0]) ?_ 1 _ rfl; (with_reducible repeat (first | refine blk_drewN ?_ _ | refine blk_drew ?_ | refine blk_alloc ?_ _)); refine blk_put (cs := #[.int .i64 0, .int .i64 0]) ?_ 0 _ rfl; (with_reducible repeat (first | refine blk_drewN ?_ _ | refine blk_drew ?_ | refine blk_alloc ?_ _)); exact BK344.out) Try.underlying37 rfl (by kernel_rfl)) rfl ?_
       exact ⟨by first | rfl | (simp [errW_none, errW_some] <;> rfl) | (simp [*, errW_none, errW_some] <;> rfl), (zb1 HB)⟩
      ·
       replace c33 := Bool.eq_false_iff.mpr c33
       subst c33
       have H1 : (if x344000_10 = true then (some (wrap64 (-(wrap64 (x344002_10))), x1_10, true)) else (some (wrap64 (x344002_10), x1_10, true))) = some (r1, r2, r3) := by rw [if_neg (show ¬ (false = true) by decide)] at H; exact H
       clear H
       have H := H1
       clear H1
       by_cases c36 : x344000_10 = true
       ·
        subst c36
        have H1 : (some (wrap64 (-(wrap64 (x344002_10))), x1_10, true)) = some (r1, r2, r3) := by rw [if_pos rfl] at H; exact H
        clear H
        have H := H1
        clear H1
        simp only [Option.some.injEq, Prod.mk.injEq] at H
        obtain ⟨rfl, rfl, rfl⟩ := H
        have hnb37 := NB343_344.out
        have hnc37 := NB344_343.out
        have hcz38_0 : wc.cell? ⟨gb343, 0, none⟩ = some (.bool true) := zc BK343 0
        have hcz38_1 : wc.cell? ⟨gb343, 1, none⟩ = some (.int .u64 x344001_10) := zc BK343 1
        have hcz38_2 : wc.cell? ⟨gb343, 2, none⟩ = some (.int .u64 x344002_10) := zc BK343 2
        have hfz38_0 := blk_frozen BK343.out 0
        have hfz38_1 := blk_frozen BK343.out 1
        have hfz38_2 := blk_frozen BK343.out 2
        have hcz39_0 : wc.cell? ⟨gb344, 0, none⟩ = some (.int .i64 0) := zc BK344 0
        have hcz39_1 : wc.cell? ⟨gb344, 1, none⟩ = some (.int .i64 0) := zc BK344 1
        have hfz39_0 := blk_frozen BK344.out 0
        have hfz39_1 := blk_frozen BK344.out 1
        go_wp2
        refine bodyPost_ret (results_ct rfl _ _ gb344 37 #[.int .i64 (wrap64 (-(wrap64 (x344002_10)))), .int .i64 x1_10] (0, 0) _ rfl (by (with_reducible repeat (first | refine blk_drewN ?_ _ | refine blk_drew ?_ | refine blk_alloc ?_ _)); refine blk_put (cs := #[.int .i64 (wrap64 (-(wrap64 (x344002_10)))), .int .i64 0]) ?_ 1 _ rfl; (with_reducible repeat (first | refine blk_drewN ?_ _ | refine blk_drew ?_ | refine blk_alloc ?_ _)); refine blk_put (cs := #[.int .i64 0, .int .i64 0]) ?_ 0 _ rfl; (with_reducible repeat (first | refine blk_drewN ?_ _ | refine blk_drew ?_ | refine blk_alloc ?_ _)); exact BK344.out) Try.underlying37 rfl (by kernel_rfl)) rfl ?_
        exact ⟨by first | rfl | (simp [errW_none, errW_some] <;> rfl) | (simp [*, errW_none, errW_some] <;> rfl), (zb1 HB)⟩
       ·
        replace c36 := Bool.eq_false_iff.mpr c36
        subst c36
        have H1 : (some (wrap64 (x344002_10), x1_10, true)) = some (r1, r2, r3) := by rw [if_neg (show ¬ (false = true) by decide)] at H; exact H
        clear H
        have H := H1
        clear H1
        simp only [Option.some.injEq, Prod.mk.injEq] at H
        obtain ⟨rfl, rfl, rfl⟩ := H
        have hnb40 := NB343_344.out
        have hnc40 := NB344_343.out
        have hcz41_0 : wc.cell? ⟨gb343, 0, none⟩ = some (.bool false) := zc BK343 0
        have hcz41_1 : wc.cell? ⟨gb343, 1, none⟩ = some (.int .u64 x344001_10) := zc BK343 1
        have hcz41_2 : wc.cell? ⟨gb343, 2, none⟩ = some (.int .u64 x344002_10) := zc BK343 2
        have hfz41_0 := blk_frozen BK343.out 0
        have hfz41_1 := blk_frozen BK343.out 1
        have hfz41_2 := blk_frozen BK343.out 2
        have hcz42_0 : wc.cell? ⟨gb344, 0, none⟩ = some (.int .i64 0) := zc BK344 0
        have hcz42_1 : wc.cell? ⟨gb344, 1, none⟩ = some (.int .i64 0) := zc BK344 1
        have hfz42_0 := blk_frozen BK344.out 0
        have hfz42_1 := blk_frozen BK344.out 1
        go_wp2
        refine bodyPost_ret (results_ct rfl _ _ gb344 37 #[.int .i64 (wrap64 (x344002_10)), .int .i64 x1_10] (0, 0) _ rfl (by (with_reducible repeat (first | refine blk_drewN ?_ _ | refine blk_drew ?_ | refine blk_alloc ?_ _)); refine blk_put (cs := #[.int .i64 (wrap64 (x344002_10)), .int .i64 0]) ?_ 1 _ rfl; (with_reducible repeat (first | refine blk_drewN ?_ _ | refine blk_drew ?_ | refine blk_alloc ?_ _)); refine blk_put (cs := #[.int .i64 0, .int .i64 0]) ?_ 0 _ rfl; (with_reducible repeat (first | refine blk_drewN ?_ _ | refine blk_drew ?_ | refine blk_alloc ?_ _)); exact BK344.out) Try.underlying37 rfl (by kernel_rfl)) rfl ?_
        exact ⟨by first | rfl | (simp [errW_none, errW_some] <;> rfl) | (simp [*, errW_none, errW_some] <;> rfl), (zb1 HB)⟩
end Go.Proofs.Ytgaoniapddpaaaa.PD
