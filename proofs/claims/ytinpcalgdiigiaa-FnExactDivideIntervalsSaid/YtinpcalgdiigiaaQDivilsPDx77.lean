-- By wip/mk/drv.py
import Derived.Test.YtinpcalgdiigiaaQDivilsPDx0
import Derived.Test.YtinpcalgdiigiaaQDivilsPDx1
import Derived.Test.YtinpcalgdiigiaaQDivilsPDx2
import Derived.Test.YtinpcalgdiigiaaQDivilsPDx4
import Derived.Test.YtinpcalgdiigiaaQDivilsPDx34
namespace Go.Proofs.Ytinpcalgdiigiaa.PD
open Go.RowKit Go.Proofs.YtinpcalgdiigiaaW.PrintWords Go.Proofs.YtinpcalgdiigiaaW.PrintLast Go.Proofs.YtinpcalgdiigiaaW.PrintMore
attribute [local go_sem] max2_int min2_int max_two min_two max_three min_three max_four min_four
set_option linter.unusedVariables false
set_option linter.unusedSimpArgs false
/-! ### spec_dyDigits: function 115 -/
set_option maxHeartbeats 8000000 in
set_option maxRecDepth 100000 in
theorem spec_dyDigits.calls (k : Nat) (a0 : Int) (a1 : Int) (a2 : Int) (a3 : Int) (a4 : Int) (r1 : Int) (r2 : Int) (r3 : Bool) (w : World) (h : spec_dyDigits.f k a0 a1 a2 a3 a4 = some (r1, r2, r3)) :
  Calls Try.prog 115 #[.int .i64 a0, .int .i64 a1, .int .i64 a2, .int .i64 a3, .int .i64 a4] w fun e w' => e = .returned (.tuple #[.agg #[.int .i64 r1, .int .i64 r2], .bool r3]) ∧ Below w.heap.size w w' := by
 have hu27 := Try.underlying27
 have HB := Aside0.mk (Below.refl w.heap.size w)
 have H : (spec_dyDigits.l0 k a0 a1 a2 a3 a4 0 0) = some (r1, r2, r3) := h
 clear h
 have H' := Aside0.mk H
 clear H
 go_enter Try.func115, Try.ntmps115
 go_wp2_with (first | ((with_reducible refine gate_dst (N := 10) rfl ?_); refine zbe (N := 10) (cs := #[.int .i64 0, .int .i64 0]) (t := 27) ?_; intro gb1069 hg w6 hbox hb; have BK1069 := Aside0.mk (hbox); have GW1069 := Aside0.mk (zge (zb0 HB) hg); have GE1069 := GW1069; replace HB := Aside0.mk (below_step (zb0 HB) hb); clear hb hbox hg))
 go_loopg [1, 12, 13] k (fun kq v1 v12 v13 w' => ∃ (x1_1 : Int) (x12_1 : Int) (x13_1 : Int), v1 = .int .i64 x1_1 ∧ v12 = .int .i64 x12_1 ∧ v13 = .int .i64 x13_1 ∧ Aside0 (spec_dyDigits.l0 kq a0 x1_1 a2 a3 a4 x12_1 x13_1 = some (r1, r2, r3)) ∧ Aside0 (kq ≤ k) ∧ Aside0 (w'.heap[gb1069]? = some (.cells #[.int .i64 0, .int .i64 0] 27 (0, 0))) ∧ Aside0 (Below w.heap.size w w'))
 case atStart => exact ⟨(a1), (0), (0), (by first | rfl | (simp; done) | (simp [*]; done)), (by first | rfl | (simp; done) | (simp [*]; done)), (by first | rfl | (simp; done) | (simp [*]; done)), H', ⟨Nat.le_refl _⟩, ⟨by (with_reducible repeat (first | refine blk_drewN ?_ _ | refine blk_drew ?_ | refine blk_alloc ?_ _)); exact BK1069.out⟩, ⟨(zb1 HB)⟩⟩
 case round =>
  clear H'
  try clear c1
  try clear p2
  obtain ⟨x1_1, x12_1, x13_1, rfl, rfl, rfl, HA, HK1, BK1069, HB⟩ := hrel
  cases gk with
  | zero => exact absurd HA.out (by simp [spec_dyDigits.l0])
  | succ k1 =>
   have H := HA.out
   clear HA
   simp only [spec_dyDigits.l0] at H
   by_cases c7 : x13_1 < a3
   ·
    rw [if_pos c7] at H
    have c7b0 : decide (x13_1 < a3) = true := decide_eq_true c7
    clear c7
    by_cases c8 : (wrap64 (x1_1 * 2)) ≥ a2
    ·
     rw [if_pos c8] at H
     have c8b0 : decide (a2 ≤ (wrap64 (x1_1 * 2))) = true := decide_eq_true c8
     clear c8
     have H' := Aside0.mk H
     clear H
     go_wp2
     go_roundg k1
     case measure => have := HK1.out; omega
     case rel => exact ⟨(wrap64 ((wrap64 (x1_1 * 2)) - a2)), (wrap64 ((wrap64 (x12_1 * 2)) + 1)), (wrap64 (x13_1 + 1)), (by first | rfl | (simp; done) | (simp [*]; done)), (by first | rfl | (simp; done) | (simp [*]; done)), (by first | rfl | (simp; done) | (simp [*]; done)), H', ⟨by have := HK1.out; omega⟩, ⟨by (with_reducible repeat (first | refine blk_drewN ?_ _ | refine blk_drew ?_ | refine blk_alloc ?_ _)); exact BK1069.out⟩, ⟨(zb1 HB)⟩⟩
    ·
     rw [if_neg c8] at H
     have c8b0 : decide (a2 ≤ (wrap64 (x1_1 * 2))) = false := decide_eq_false c8
     clear c8
     have H' := Aside0.mk H
     clear H
     go_wp2
     go_roundg k1
     case measure => have := HK1.out; omega
     case rel => exact ⟨(wrap64 (x1_1 * 2)), (wrap64 (x12_1 * 2)), (wrap64 (x13_1 + 1)), (by first | rfl | (simp; done) | (simp [*]; done)), (by first | rfl | (simp; done) | (simp [*]; done)), (by first | rfl | (simp; done) | (simp [*]; done)), H', ⟨by have := HK1.out; omega⟩, ⟨by (with_reducible repeat (first | refine blk_drewN ?_ _ | refine blk_drew ?_ | refine blk_alloc ?_ _)); exact BK1069.out⟩, ⟨(zb1 HB)⟩⟩
   ·
    rw [if_neg c7] at H
    have c7b0 : decide (x13_1 < a3) = false := decide_eq_false c7
    clear c7
    have HC9 := Aside0.mk H
    clear H
    go_upto_block 2 with (fail)
    go_cut [3, 4, 12] (fun v3 v4 v12 wc => ∃ (kq : Nat) (x3_8 : Int) (x4_8 : Int) (x12_8 : Int), v3 = .int .i64 x3_8 ∧ v4 = .int .i64 x4_8 ∧ v12 = .int .i64 x12_8 ∧ Aside0 (spec_dyDigits.j2 kq a0 x3_8 x4_8 x12_8 = some (r1, r2, r3)) ∧ Aside0 (kq ≤ k1) ∧ Aside0 (wc.heap[gb1069]? = some (.cells #[.int .i64 0, .int .i64 0] 27 (0, 0))) ∧ Aside0 (Below w.heap.size w wc))
    case first =>
     have H := HC9.out
     clear HC9
     have H' := Aside0.mk H
     clear H
     go_wp2
     go_loopg [3, 4, 12] k1 (fun kq v3 v4 v12 w' => ∃ (x3_2 : Int) (x4_2 : Int) (x12_2 : Int), v3 = .int .i64 x3_2 ∧ v4 = .int .i64 x4_2 ∧ v12 = .int .i64 x12_2 ∧ Aside0 (spec_dyDigits.l1 kq a0 x3_2 x4_2 x12_2 = some (r1, r2, r3)) ∧ Aside0 (kq ≤ k1) ∧ Aside0 (w'.heap[gb1069]? = some (.cells #[.int .i64 0, .int .i64 0] 27 (0, 0))) ∧ Aside0 (Below w.heap.size w w'))
     case atStart => exact ⟨(a3), (a4), (x12_1), (by first | rfl | (simp; done) | (simp [*]; done)), (by first | rfl | (simp; done) | (simp [*]; done)), (by first | rfl | (simp; done) | (simp [*]; done)), H', ⟨Nat.le_refl _⟩, ⟨by (with_reducible repeat (first | refine blk_drewN ?_ _ | refine blk_drew ?_ | refine blk_alloc ?_ _)); exact BK1069.out⟩, ⟨(zb1 HB)⟩⟩
     case round =>
      clear H'
      try clear c1
      try clear p2
      try clear p6
      try clear c7
      try clear c7b0
      try clear c8
      try clear c8b0
      try clear p2
      obtain ⟨x3_2, x4_2, x12_2, rfl, rfl, rfl, HA, HK2, BK1069, HB⟩ := hrel
      cases gk with
      | zero => exact absurd HA.out (by simp [spec_dyDigits.l1])
      | succ k2 =>
       have H := HA.out
       clear HA
       simp only [spec_dyDigits.l1] at H
       by_cases c10 : x4_2 > 0
       ·
        rw [if_pos c10] at H
        have c10b0 : decide (0 < x4_2) = true := decide_eq_true c10
        clear c10
        (first | rw [c10b0] | (simp only [i64_w, i32_w]; rw [c10b0]) | skip)
        by_cases c11 : x3_2 > 0
        ·
         rw [if_pos c11] at H
         have c11b0 : decide (0 < x3_2) = true := decide_eq_true c11
         clear c11
         by_cases c12 : (Int.tmod x12_2 2) = 0
         ·
          rw [if_pos c12] at H
          have c12b0 : ((Int.tmod x12_2 2) == 0) = true := beq_iff_eq.mpr c12
          have c12b1 : ((Int.tmod x12_2 2) != 0) = false := bne_eq_false_iff_eq.mpr c12
          clear c12
          have H' := Aside0.mk H
          clear H
          go_wp2
          go_roundg k2
          case measure => have := HK1.out; have := HK2.out; omega
          case rel => exact ⟨(wrap64 (x3_2 - 1)), (wrap64 (x4_2 - 1)), (wrap64 (Int.tdiv x12_2 2)), (by first | rfl | (simp; done) | (simp [*]; done)), (by first | rfl | (simp; done) | (simp [*]; done)), (by first | rfl | (simp; done) | (simp [*]; done)), H', ⟨by have := HK1.out; have := HK2.out; omega⟩, ⟨by (with_reducible repeat (first | refine blk_drewN ?_ _ | refine blk_drew ?_ | refine blk_alloc ?_ _)); exact BK1069.out⟩, ⟨(zb1 HB)⟩⟩
         ·
          rw [if_neg c12] at H
          have c12b0 : ((Int.tmod x12_2 2) == 0) = false := beq_eq_false_iff_ne.mpr c12
          have c12b1 : ((Int.tmod x12_2 2) != 0) = true := bne_iff_ne.mpr c12
          have H' := Aside0.mk H
          clear H
          go_wp2
          go_meet
          case rel => exact ⟨_, (x3_2), (x4_2), (x12_2), (by first | rfl | (simp; done) | (simp [*]; done)), (by first | rfl | (simp; done) | (simp [*]; done)), (by first | rfl | (simp; done) | (simp [*]; done)), H', ⟨by have := HK1.out; have := HK2.out; first | omega | exact Nat.le_refl _⟩, ⟨by (with_reducible repeat (first | refine blk_drewN ?_ _ | refine blk_drew ?_ | refine blk_alloc ?_ _)); exact BK1069.out⟩, ⟨(zb1 HB)⟩⟩
        ·
         rw [if_neg c11] at H
         have c11b0 : decide (0 < x3_2) = false := decide_eq_false c11
         clear c11
         have H' := Aside0.mk H
         clear H
         go_wp2
         go_meet
         case rel => exact ⟨_, (x3_2), (x4_2), (x12_2), (by first | rfl | (simp; done) | (simp [*]; done)), (by first | rfl | (simp; done) | (simp [*]; done)), (by first | rfl | (simp; done) | (simp [*]; done)), H', ⟨by have := HK1.out; have := HK2.out; first | omega | exact Nat.le_refl _⟩, ⟨by (with_reducible repeat (first | refine blk_drewN ?_ _ | refine blk_drew ?_ | refine blk_alloc ?_ _)); exact BK1069.out⟩, ⟨(zb1 HB)⟩⟩
       ·
        rw [if_neg c10] at H
        have c10b0 : decide (0 < x4_2) = false := decide_eq_false c10
        clear c10
        (first | rw [c10b0] | (simp only [i64_w, i32_w]; rw [c10b0]) | skip)
        have H' := Aside0.mk H
        clear H
        go_wp2
        go_meet
        case rel => exact ⟨_, (x3_2), (x4_2), (x12_2), (by first | rfl | (simp; done) | (simp [*]; done)), (by first | rfl | (simp; done) | (simp [*]; done)), (by first | rfl | (simp; done) | (simp [*]; done)), H', ⟨by have := HK1.out; have := HK2.out; first | omega | exact Nat.le_refl _⟩, ⟨by (with_reducible repeat (first | refine blk_drewN ?_ _ | refine blk_drew ?_ | refine blk_alloc ?_ _)); exact BK1069.out⟩, ⟨(zb1 HB)⟩⟩
    case rest =>
     clear HC9
     try clear c1
     try clear p2
     try clear p6
     try clear c7
     try clear c7b0
     try clear c8
     try clear c8b0
     try clear c10
     try clear c10b0
     try clear c11
     try clear c11b0
     try clear c12
     try clear c12b0
     try clear c12b1
     try clear p2
     try clear p6
     obtain ⟨kq, x3_8, x4_8, x12_8, rfl, rfl, rfl, HA, HJ8, BK1069, HB⟩ := hcut
     cases kq with
     | zero => exact absurd HA.out (by simp [spec_dyDigits.j2])
     | succ kj8 =>
      have H := HA.out
      clear HA
      simp only [spec_dyDigits.j2] at H
      replace H := Option.bind_eq_some_iff.mp H
      obtain ⟨t1070, A130, H⟩ := H
      replace H : ((spec_dyPower.f (wrap64 (62 - x3_8))).bind fun t1071 => (if t1070 > t1071 then (some (0, 0, false)) else ((spec_dyPower.f x3_8).bind fun t1072 => ((spec_dyMake.f kj8 (wrap64 ((wrap64 (a0 * t1072)) + x12_8)) x4_8).bind fun bt1073 => (some (bt1073.1, bt1073.2.1, bt1073.2.2)))))) = some (r1, r2, r3) := H
      have A13 := Aside0.mk A130
      clear A130
      replace H := Option.bind_eq_some_iff.mp H
      obtain ⟨t1071, A140, H⟩ := H
      replace H : (if t1070 > t1071 then (some (0, 0, false)) else ((spec_dyPower.f x3_8).bind fun t1072 => ((spec_dyMake.f kj8 (wrap64 ((wrap64 (a0 * t1072)) + x12_8)) x4_8).bind fun bt1073 => (some (bt1073.1, bt1073.2.1, bt1073.2.2))))) = some (r1, r2, r3) := H
      have A14 := Aside0.mk A140
      clear A140
      by_cases c15 : t1070 > t1071
      ·
       rw [if_pos c15] at H
       have c15b0 : decide (t1071 < t1070) = true := decide_eq_true c15
       clear c15
       simp only [Option.some.injEq, Prod.mk.injEq] at H
       obtain ⟨rfl, rfl, rfl⟩ := H
       go_wp2_with (first | ((with_reducible refine gate_callee (f := 113) rfl ?_); refine goesL_ (some 49) rfl rfl Try.func113 (by kernel_rfl) rfl #[.int .i64 a0] rfl zq6 ?_; (with_reducible refine (spec_l1Abs.calls a0 t1070 _ A13.out).mono ?_); rintro e w' ⟨rfl, ⟨nd, rfl⟩⟩; refine ⟨_, rfl, ?_⟩; (try (rw [drewN_self wc]; generalize hq_ : World.drewN wc _ = wc; have n0_ : Aside0 (wc.heap[gb1069]? = some (.cells #[.int .i64 0, .int .i64 0] 27 (0, 0))) := ⟨by rw [← hq_]; exact (zq1 BK1069)⟩; have n1_ : Aside0 (Below w.heap.size w wc) := ⟨by rw [← hq_]; exact (zb1 HB)⟩; clear BK1069 HB hq_; have BK1069 := n0_; have HB := n1_; clear n0_ n1_))) | ((with_reducible refine gate_callee (f := 103) rfl ?_); refine goesL_ (some 52) rfl rfl Try.func103 (by kernel_rfl) rfl #[.int .i64 (wrap64 (62 - x3_8))] rfl zq6 ?_; (with_reducible refine (spec_dyPower.calls (wrap64 (62 - x3_8)) t1071 _ A14.out).mono ?_); rintro e w' ⟨rfl, ⟨nd, rfl⟩⟩; refine ⟨_, rfl, ?_⟩; (try (rw [drewN_self wc]; generalize hq_ : World.drewN wc _ = wc; have n0_ : Aside0 (wc.heap[gb1069]? = some (.cells #[.int .i64 0, .int .i64 0] 27 (0, 0))) := ⟨by rw [← hq_]; exact (zq1 BK1069)⟩; have n1_ : Aside0 (Below w.heap.size w wc) := ⟨by rw [← hq_]; exact (zb1 HB)⟩; clear BK1069 HB hq_; have BK1069 := n0_; have HB := n1_; clear n0_ n1_)); have hcz16_0 : wc.cell? ⟨gb1069, 0, none⟩ = some (.int .i64 0) := zc BK1069 0; have hcz16_1 : wc.cell? ⟨gb1069, 1, none⟩ = some (.int .i64 0) := zc BK1069 1; have hfz16_0 := blk_frozen BK1069.out 0; have hfz16_1 := blk_frozen BK1069.out 1))
       refine bodyPost_ret (results_ct rfl _ _ gb1069 27 #[.int .i64 0, .int .i64 0] (0, 0) _ rfl (by (with_reducible repeat (first | refine blk_drewN ?_ _ | refine blk_drew ?_ | refine blk_alloc ?_ _)); refine blk_put (cs := #[.int .i64 0, .int .i64 0]) ?_ 1 _ rfl; (with_reducible repeat (first | refine blk_drewN ?_ _ | refine blk_drew ?_ | refine blk_alloc ?_ _)); refine blk_put (cs := #[.int .i64 0, .int .i64 0]) ?_ 0 _ rfl; (with_reducible repeat (first | refine blk_drewN ?_ _ | refine blk_drew ?_ | refine blk_alloc ?_ _)); exact BK1069.out) Try.underlying27 rfl (by kernel_rfl)) rfl ?_
       exact ⟨by first | rfl | (simp [errW_none, errW_some] <;> rfl) | (simp [*, errW_none, errW_some] <;> rfl), (zb1 HB)⟩
      ·
       rw [if_neg c15] at H
       have c15b0 : decide (t1071 < t1070) = false := decide_eq_false c15
       clear c15
       replace H := Option.bind_eq_some_iff.mp H
       obtain ⟨t1072, A170, H⟩ := H
       replace H : ((spec_dyMake.f kj8 (wrap64 ((wrap64 (a0 * t1072)) + x12_8)) x4_8).bind fun bt1073 => (some (bt1073.1, bt1073.2.1, bt1073.2.2))) = some (r1, r2, r3) := H
       have A17 := Aside0.mk A170
       clear A170
       replace H := Option.bind_eq_some_iff.mp H
       obtain ⟨⟨t1073, t1074, t1075⟩, A180, H⟩ := H
       replace H : (some (t1073, t1074, t1075)) = some (r1, r2, r3) := H
       have A18 := Aside0.mk A180
       clear A180
       simp only [Option.some.injEq, Prod.mk.injEq] at H
       obtain ⟨rfl, rfl, rfl⟩ := H
       go_wp2_with (first | ((with_reducible refine gate_callee (f := 113) rfl ?_); refine goesL_ (some 49) rfl rfl Try.func113 (by kernel_rfl) rfl #[.int .i64 a0] rfl zq6 ?_; (with_reducible refine (spec_l1Abs.calls a0 t1070 _ A13.out).mono ?_); rintro e w' ⟨rfl, ⟨nd, rfl⟩⟩; refine ⟨_, rfl, ?_⟩; (try (rw [drewN_self wc]; generalize hq_ : World.drewN wc _ = wc; have n0_ : Aside0 (wc.heap[gb1069]? = some (.cells #[.int .i64 0, .int .i64 0] 27 (0, 0))) := ⟨by rw [← hq_]; exact (zq1 BK1069)⟩; have n1_ : Aside0 (Below w.heap.size w wc) := ⟨by rw [← hq_]; exact (zb1 HB)⟩; clear BK1069 HB hq_; have BK1069 := n0_; have HB := n1_; clear n0_ n1_))) | ((with_reducible refine gate_callee (f := 103) rfl ?_); refine goesL_ (some 52) rfl rfl Try.func103 (by kernel_rfl) rfl #[.int .i64 (wrap64 (62 - x3_8))] rfl zq6 ?_; (with_reducible refine (spec_dyPower.calls (wrap64 (62 - x3_8)) t1071 _ A14.out).mono ?_); rintro e w' ⟨rfl, ⟨nd, rfl⟩⟩; refine ⟨_, rfl, ?_⟩; (try (rw [drewN_self wc]; generalize hq_ : World.drewN wc _ = wc; have n0_ : Aside0 (wc.heap[gb1069]? = some (.cells #[.int .i64 0, .int .i64 0] 27 (0, 0))) := ⟨by rw [← hq_]; exact (zq1 BK1069)⟩; have n1_ : Aside0 (Below w.heap.size w wc) := ⟨by rw [← hq_]; exact (zb1 HB)⟩; clear BK1069 HB hq_; have BK1069 := n0_; have HB := n1_; clear n0_ n1_))) | ((with_reducible refine gate_callee (f := 103) rfl ?_); refine goesL_ (some 57) rfl rfl Try.func103 (by kernel_rfl) rfl #[.int .i64 x3_8] rfl zq6 ?_; (with_reducible refine (spec_dyPower.calls x3_8 t1072 _ A17.out).mono ?_); rintro e w' ⟨rfl, ⟨nd, rfl⟩⟩; refine ⟨_, rfl, ?_⟩; (try (rw [drewN_self wc]; generalize hq_ : World.drewN wc _ = wc; have n0_ : Aside0 (wc.heap[gb1069]? = some (.cells #[.int .i64 0, .int .i64 0] 27 (0, 0))) := ⟨by rw [← hq_]; exact (zq1 BK1069)⟩; have n1_ : Aside0 (Below w.heap.size w wc) := ⟨by rw [← hq_]; exact (zb1 HB)⟩; clear BK1069 HB hq_; have BK1069 := n0_; have HB := n1_; clear n0_ n1_))) | ((with_reducible refine gate_callee (f := 107) rfl ?_); refine goesL_ (some 62) rfl rfl Try.func107 (by kernel_rfl) rfl #[.int .i64 (wrap64 ((wrap64 (a0 * t1072)) + x12_8)), .int .i64 x4_8] rfl zq6 ?_; (with_reducible refine (spec_dyMake.calls kj8 (wrap64 ((wrap64 (a0 * t1072)) + x12_8)) x4_8 t1073 t1074 t1075 _ A18.out).mono ?_); rintro e w19 ⟨rfl, hb⟩; refine ⟨_, rfl, ?_⟩; replace BK1069 := Aside0.mk (zbb BK1069 hb); replace HB := Aside0.mk (below_step (zb1 HB) hb); (try clear hb); (try clear hb2); (try clear hk); (try clear hi); have hcz20_0 : w19.cell? ⟨gb1069, 0, none⟩ = some (.int .i64 0) := zc BK1069 0; have hcz20_1 : w19.cell? ⟨gb1069, 1, none⟩ = some (.int .i64 0) := zc BK1069 1; have hfz20_0 := blk_frozen BK1069.out 0; have hfz20_1 := blk_frozen BK1069.out 1))
       refine bodyPost_ret (results_ct rfl _ _ gb1069 27 #[.int .i64 t1073, .int .i64 t1074] (0, 0) _ rfl (by (with_reducible repeat (first | refine blk_drewN ?_ _ | refine blk_drew ?_ | refine blk_alloc ?_ _)); refine blk_put (cs := #[.int .i64 t1073, .int .i64 0]) ?_ 1 _ rfl; (with_reducible repeat (first | refine blk_drewN ?_ _ | refine blk_drew ?_ | refine blk_alloc ?_ _)); refine blk_put (cs := #[.int .i64 0, .int .i64 0]) ?_ 0 _ rfl; (with_reducible repeat (first | refine blk_drewN ?_ _ | refine blk_drew ?_ | refine blk_alloc ?_ _)); exact BK1069.out) Try.underlying27 rfl (by kernel_rfl)) rfl ?_
       exact ⟨by first | rfl | (simp [errW_none, errW_some] <;> rfl) | (simp [*, errW_none, errW_some] <;> rfl), (zb1 HB)⟩
end Go.Proofs.Ytinpcalgdiigiaa.PD
