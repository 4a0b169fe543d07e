-- By wip/mk/drv.py
import Derived.Test.YtgaoniapddpaaaaQHalvOfPDx0
import Derived.Test.YtgaoniapddpaaaaQHalvOfPDx1
import Derived.Test.YtgaoniapddpaaaaQHalvOfPDx2
namespace Go.Proofs.Ytgaoniapddpaaaa.PD
open Go.RowKit Go.Proofs.YtgaoniapddpaaaaW.PrintWords Go.Proofs.YtgaoniapddpaaaaW.PrintLast Go.Proofs.YtgaoniapddpaaaaW.PrintMore
attribute [local go_sem] max2_int min2_int max_two min_two max_three min_three max_four min_four
set_option linter.unusedVariables false
set_option linter.unusedSimpArgs false
/-! ### spec_bxGood: function 56 -/
set_option maxHeartbeats 8000000 in
set_option maxRecDepth 100000 in
theorem spec_bxGood.calls (k : Nat) (a0_0 : Int) (A0_1 : Option Addr) (c0_1 : Nat) (l0_1 : List Int) (A0_2 : Option Addr) (c0_2 : Nat) (l0_2 : List Int) (r : Bool) (w : World) (hr0_1 : Kd.C (Kd.int .i64) w A0_1 l0_1.length l0_1) (hc0_1 : l0_1.length ≤ c0_1) (hr0_2 : Kd.C (Kd.int .i64) w A0_2 l0_2.length l0_2) (hc0_2 : l0_2.length ≤ c0_2) (h : spec_bxGood.f k a0_0 l0_1 l0_2 = some r) :
  Calls Try.prog 56 #[.agg #[.int .i64 a0_0, .slice A0_1 l0_1.length c0_1, .slice A0_2 l0_2.length c0_2]] w fun e w' => e = .returned (.bool r) ∧ Below w.heap.size w w' := by
 have hu27 := Try.underlying27
 have HR0_1 := Aside0.mk hr0_1
 have HC0_1 := Aside0.mk hc0_1
 clear hr0_1 hc0_1
 have HR0_2 := Aside0.mk hr0_2
 have HC0_2 := Aside0.mk hc0_2
 clear hr0_2 hc0_2
 have HB := Aside0.mk (Below.refl w.heap.size w)
 have H : ((spec_l1In.f a0_0 0 8).bind fun t136 => (if t136 = true then ((spec_l1In.f (l0_1.length : Int) 1 3).bind fun t137 => (if t137 = true then (spec_bxGood.j0 k ((l0_2.length : Int) != (l0_1.length : Int)) a0_0 l0_1 l0_2) else (spec_bxGood.j0 k true a0_0 l0_1 l0_2))) else (spec_bxGood.j0 k true a0_0 l0_1 l0_2))) = some r := h
 clear h
 have HC2 := Aside0.mk H
 clear H
 go_enter Try.func56, Try.ntmps56
 go_upto_region 1 with (first | ((with_reducible refine gate_dst (N := 1) rfl ?_); (try (refine gate_guard (by rfl) ?_; dsimp only)); refine zbe (N := 1) (cs := #[.int .i64 a0_0, .slice A0_1 l0_1.length c0_1, .slice A0_2 l0_2.length c0_2]) (t := 27) ?_; intro gb135 hg w3 hbox hb; have BK135 := Aside0.mk (hbox); have GW135 := Aside0.mk (zge (zb0 HB) hg); have GE135 := GW135; replace HB := Aside0.mk (below_step (zb0 HB) hb); clear hb hbox hg))
 (try simp only [Act.put, List.setIfInBounds_toArray, List.set_cons_zero, List.set_cons_succ])
 go_cut [27] (fun v27 wc => ∃ (kq : Nat) (x27_1 : Bool), v27 = .bool x27_1 ∧ Aside0 (spec_bxGood.j0 kq x27_1 a0_0 l0_1 l0_2 = some r) ∧ Aside0 (kq ≤ k) ∧ Aside0 (wc.heap[gb135]? = some (.cells #[.int .i64 a0_0, (.slice A0_1 l0_1.length c0_1), (.slice A0_2 l0_2.length c0_2)] 27 (0, 0))) ∧ Aside0 (Below w.heap.size w wc))
 case first =>
  have H := HC2.out
  clear HC2
  replace H := Option.bind_eq_some_iff.mp H
  obtain ⟨t136, A40, H⟩ := H
  replace H : (if t136 = true then ((spec_l1In.f (l0_1.length : Int) 1 3).bind fun t137 => (if t137 = true then (spec_bxGood.j0 k ((l0_2.length : Int) != (l0_1.length : Int)) a0_0 l0_1 l0_2) else (spec_bxGood.j0 k true a0_0 l0_1 l0_2))) else (spec_bxGood.j0 k true a0_0 l0_1 l0_2)) = some r := H
  have A4 := Aside0.mk A40
  clear A40
  by_cases c5 : t136 = true
  ·
   subst c5
   have H1 : ((spec_l1In.f (l0_1.length : Int) 1 3).bind fun t137 => (if t137 = true then (spec_bxGood.j0 k ((l0_2.length : Int) != (l0_1.length : Int)) a0_0 l0_1 l0_2) else (spec_bxGood.j0 k true a0_0 l0_1 l0_2))) = some r := by rw [if_pos rfl] at H; exact H
   clear H
   have H := H1
   clear H1
   replace H := Option.bind_eq_some_iff.mp H
   obtain ⟨t137, A60, H⟩ := H
   replace H : (if t137 = true then (spec_bxGood.j0 k ((l0_2.length : Int) != (l0_1.length : Int)) a0_0 l0_1 l0_2) else (spec_bxGood.j0 k true a0_0 l0_1 l0_2)) = some r := H
   have A6 := Aside0.mk A60
   clear A60
   by_cases c7 : t137 = true
   ·
    subst c7
    have H1 : (spec_bxGood.j0 k ((l0_2.length : Int) != (l0_1.length : Int)) a0_0 l0_1 l0_2) = some r := by rw [if_pos rfl] at H; exact H
    clear H
    have H := H1
    clear H1
    have H' := Aside0.mk H
    clear H
    have hcz8_0 : w3.cell? ⟨gb135, 0, none⟩ = some (.int .i64 a0_0) := zc BK135 0
    have hcz8_1 : w3.cell? ⟨gb135, 1, none⟩ = some (.slice A0_1 l0_1.length c0_1) := zc BK135 1
    have hcz8_2 : w3.cell? ⟨gb135, 2, none⟩ = some (.slice A0_2 l0_2.length c0_2) := zc BK135 2
    have hfz8_0 := blk_frozen BK135.out 0
    have hfz8_1 := blk_frozen BK135.out 1
    have hfz8_2 := blk_frozen BK135.out 2
    go_wp2_with (first | ((with_reducible refine gate_callee (f := 69) rfl ?_); refine goesL_ (some 10) rfl rfl Try.func69 (by kernel_rfl) rfl #[.int .i64 a0_0, .int .i64 0, .int .i64 8] rfl zq6 ?_; (with_reducible refine (spec_l1In.calls a0_0 0 8 true _ A4.out).mono ?_); rintro e w' ⟨rfl, ⟨nd, rfl⟩⟩; refine ⟨_, rfl, ?_⟩) | (go_at_call 69; (with_reducible refine (spec_l1In.calls (l0_1.length : Int) 1 3 true _ A6.out).mono ?_); rintro e w' ⟨rfl, ⟨nd, rfl⟩⟩))
    go_meet
    case rel => exact ⟨_, (((l0_2.length : Int) != (l0_1.length : Int))), (by first | rfl | (simp; done) | (simp [*]; done)), H', ⟨by first | omega | exact Nat.le_refl _⟩, ⟨by (with_reducible repeat (first | refine blk_drewN ?_ _ | refine blk_drew ?_ | refine blk_alloc ?_ _)); exact BK135.out⟩, ⟨(zb1 HB)⟩⟩
   ·
    replace c7 := Bool.eq_false_iff.mpr c7
    subst c7
    have H1 : (spec_bxGood.j0 k true a0_0 l0_1 l0_2) = some r := by rw [if_neg (show ¬ (false = true) by decide)] at H; exact H
    clear H
    have H := H1
    clear H1
    have H' := Aside0.mk H
    clear H
    have hcz9_0 : w3.cell? ⟨gb135, 0, none⟩ = some (.int .i64 a0_0) := zc BK135 0
    have hcz9_1 : w3.cell? ⟨gb135, 1, none⟩ = some (.slice A0_1 l0_1.length c0_1) := zc BK135 1
    have hcz9_2 : w3.cell? ⟨gb135, 2, none⟩ = some (.slice A0_2 l0_2.length c0_2) := zc BK135 2
    have hfz9_0 := blk_frozen BK135.out 0
    have hfz9_1 := blk_frozen BK135.out 1
    have hfz9_2 := blk_frozen BK135.out 2
    go_wp2_with (first | ((with_reducible refine gate_callee (f := 69) rfl ?_); refine goesL_ (some 10) rfl rfl Try.func69 (by kernel_rfl) rfl #[.int .i64 a0_0, .int .i64 0, .int .i64 8] rfl zq6 ?_; (with_reducible refine (spec_l1In.calls a0_0 0 8 true _ A4.out).mono ?_); rintro e w' ⟨rfl, ⟨nd, rfl⟩⟩; refine ⟨_, rfl, ?_⟩) | (go_at_call 69; (with_reducible refine (spec_l1In.calls (l0_1.length : Int) 1 3 false _ A6.out).mono ?_); rintro e w' ⟨rfl, ⟨nd, rfl⟩⟩))
    go_meet
    case rel => exact ⟨_, (true), (by first | rfl | (simp; done) | (simp [*]; done)), H', ⟨by first | omega | exact Nat.le_refl _⟩, ⟨by (with_reducible repeat (first | refine blk_drewN ?_ _ | refine blk_drew ?_ | refine blk_alloc ?_ _)); exact BK135.out⟩, ⟨(zb1 HB)⟩⟩
  ·
   replace c5 := Bool.eq_false_iff.mpr c5
   subst c5
   have H1 : (spec_bxGood.j0 k true a0_0 l0_1 l0_2) = some r := by rw [if_neg (show ¬ (false = true) by decide)] at H; exact H
   clear H
   have H := H1
   clear H1
   have H' := Aside0.mk H
   clear H
   have hcz10_0 : w3.cell? ⟨gb135, 0, none⟩ = some (.int .i64 a0_0) := zc BK135 0
   have hcz10_1 : w3.cell? ⟨gb135, 1, none⟩ = some (.slice A0_1 l0_1.length c0_1) := zc BK135 1
   have hcz10_2 : w3.cell? ⟨gb135, 2, none⟩ = some (.slice A0_2 l0_2.length c0_2) := zc BK135 2
   have hfz10_0 := blk_frozen BK135.out 0
   have hfz10_1 := blk_frozen BK135.out 1
   have hfz10_2 := blk_frozen BK135.out 2
   go_wp2_with (first | ((with_reducible refine gate_callee (f := 69) rfl ?_); refine goesL_ (some 10) rfl rfl Try.func69 (by kernel_rfl) rfl #[.int .i64 a0_0, .int .i64 0, .int .i64 8] rfl zq6 ?_; (with_reducible refine (spec_l1In.calls a0_0 0 8 false _ A4.out).mono ?_); rintro e w' ⟨rfl, ⟨nd, rfl⟩⟩; refine ⟨_, rfl, ?_⟩))
   go_meet
   case rel => exact ⟨_, (true), (by first | rfl | (simp; done) | (simp [*]; done)), H', ⟨by first | omega | exact Nat.le_refl _⟩, ⟨by (with_reducible repeat (first | refine blk_drewN ?_ _ | refine blk_drew ?_ | refine blk_alloc ?_ _)); exact BK135.out⟩, ⟨(zb1 HB)⟩⟩
 case rest =>
  clear HC2
  try clear p2
  try clear c5
  try clear c6
  try clear c7
  try clear hcz10_0
  try clear hcz10_1
  try clear hcz10_2
  try clear hcz8_0
  try clear hcz8_1
  try clear hcz8_2
  try clear hcz9_0
  try clear hcz9_1
  try clear hcz9_2
  try clear hfz10_0
  try clear hfz10_1
  try clear hfz10_2
  try clear hfz8_0
  try clear hfz8_1
  try clear hfz8_2
  try clear hfz9_0
  try clear hfz9_1
  try clear hfz9_2
  obtain ⟨kq, x27_1, rfl, HA, HJ1, BK135, HB⟩ := hcut
  cases kq with
  | zero => exact absurd HA.out (by simp [spec_bxGood.j0])
  | succ kj1 =>
   have H := HA.out
   clear HA
   simp only [spec_bxGood.j0] at H
   by_cases c11 : x27_1 = true
   ·
    subst c11
    have H1 : (some false) = some r := by rw [if_pos rfl] at H; exact H
    clear H
    have H := H1
    clear H1
    obtain rfl := Option.some.inj H
    go_wp2
    go_ret
    exact ⟨by first | rfl | (simp [errW_none, errW_some] <;> rfl) | (simp [*, errW_none, errW_some] <;> rfl), (zb1 HB)⟩
   ·
    replace c11 := Bool.eq_false_iff.mpr c11
    subst c11
    have H1 : ((spec_dyPower.f a0_0).bind fun t138 => (spec_bxGood.l0 kj1 (wrap64 (8 * t138)) (a0_0 == 0) l0_1 (l0_1.length : Int) 0 a0_0 l0_1 l0_2)) = some r := by rw [if_neg (show ¬ (false = true) by decide)] at H; exact H
    clear H
    have H := H1
    clear H1
    replace H := Option.bind_eq_some_iff.mp H
    obtain ⟨t138, A120, H⟩ := H
    replace H : (spec_bxGood.l0 kj1 (wrap64 (8 * t138)) (a0_0 == 0) l0_1 (l0_1.length : Int) 0 a0_0 l0_1 l0_2) = some r := H
    have A12 := Aside0.mk A120
    clear A120
    have H' := Aside0.mk H
    clear H
    have hcz13_0 : wc.cell? ⟨gb135, 0, none⟩ = some (.int .i64 a0_0) := zc BK135 0
    have hcz13_1 : wc.cell? ⟨gb135, 1, none⟩ = some (.slice A0_1 l0_1.length c0_1) := zc BK135 1
    have hcz13_2 : wc.cell? ⟨gb135, 2, none⟩ = some (.slice A0_2 l0_2.length c0_2) := zc BK135 2
    have hfz13_0 := blk_frozen BK135.out 0
    have hfz13_1 := blk_frozen BK135.out 1
    have hfz13_2 := blk_frozen BK135.out 2
    go_wp2_with (first | ((with_reducible refine gate_callee (f := 90) rfl ?_); refine goesL_ (some 30) rfl rfl Try.func90 (by kernel_rfl) rfl #[.int .i64 a0_0] rfl zq6 ?_; (with_reducible refine (spec_dyPower.calls a0_0 t138 _ A12.out).mono ?_); rintro e w' ⟨rfl, ⟨nd, rfl⟩⟩; refine ⟨_, rfl, ?_⟩))
    go_loopg [4, 38] kj1 (fun kq v4 v38 w' => ∃ (x4_2 : Bool) (x38_2 : Int), v4 = .bool x4_2 ∧ v38 = .int .i64 x38_2 ∧ Aside0 (spec_bxGood.l0 kq (wrap64 (8 * t138)) x4_2 l0_1 (l0_1.length : Int) x38_2 a0_0 l0_1 l0_2 = some r) ∧ Aside0 (kq ≤ kj1) ∧ Aside0 (w'.heap[gb135]? = some (.cells #[.int .i64 a0_0, (.slice A0_1 l0_1.length c0_1), (.slice A0_2 l0_2.length c0_2)] 27 (0, 0))) ∧ Aside0 (Below w.heap.size w w'))
    case atStart => exact ⟨((a0_0 == 0)), (0), (by first | rfl | (simp; done) | (simp [*]; done)), (by first | rfl | (simp; done) | (simp [*]; done)), H', ⟨Nat.le_refl _⟩, ⟨by (with_reducible repeat (first | refine blk_drewN ?_ _ | refine blk_drew ?_ | refine blk_alloc ?_ _)); exact BK135.out⟩, ⟨(zb1 HB)⟩⟩
    case round =>
     clear H'
     try clear c1
     try clear p2
     try clear c5
     try clear c6
     try clear p6
     try clear c7
     try clear c9
     try clear c11
     try clear hcz10_0
     try clear hcz10_1
     try clear hcz10_2
     try clear hcz13_0
     try clear hcz13_1
     try clear hcz13_2
     try clear hcz8_0
     try clear hcz8_1
     try clear hcz8_2
     try clear hcz9_0
     try clear hcz9_1
     try clear hcz9_2
     try clear hfz10_0
     try clear hfz10_1
     try clear hfz10_2
     try clear hfz13_0
     try clear hfz13_1
     try clear hfz13_2
     try clear hfz8_0
     try clear hfz8_1
     try clear hfz8_2
     try clear hfz9_0
     try clear hfz9_1
     try clear hfz9_2
     try clear p2
     obtain ⟨x4_2, x38_2, rfl, rfl, HA, HK2, BK135, HB⟩ := hrel
     cases gk with
     | zero => exact absurd HA.out (by simp [spec_bxGood.l0])
     | succ k2 =>
      have H := HA.out
      clear HA
      simp only [spec_bxGood.l0] at H
      by_cases c14 : x38_2 < (l0_1.length : Int)
      ·
       rw [if_pos c14] at H
       have c14b0 : decide (x38_2 < (l0_1.length : Int)) = true := decide_eq_true c14
       clear c14
       by_cases c15 : 0 ≤ x38_2
       ·
        rw [if_pos c15] at H
        have c15b0 : decide (0 ≤ x38_2) = true := decide_eq_true c15
        clear c15
        by_cases c16 : x38_2 < (l0_1.length : Int)
        ·
         rw [if_pos c16] at H
         have c16b0 : decide (x38_2 < (l0_1.length : Int)) = true := decide_eq_true c16
         clear c16
         by_cases c17 : x38_2 < (l0_2.length : Int)
         ·
          rw [if_pos c17] at H
          have c17b0 : decide (x38_2 < (l0_2.length : Int)) = true := decide_eq_true c17
          clear c17
          replace H := Option.bind_eq_some_iff.mp H
          obtain ⟨t141, A180, H⟩ := H
          replace H : (if t141 = true then ((spec_l1In.f (rd l0_2 x38_2) (wrap64 (-(wrap64 (8 * t138)))) (wrap64 (8 * t138))).bind fun t142 => (if t142 = true then (if (rd l0_1 x38_2) ≥ (rd l0_2 x38_2) then (some false) else (if x4_2 = true then (spec_bxGood.l0 k2 (wrap64 (8 * t138)) true l0_1 (l0_1.length : Int) (wrap64 (x38_2 + 1)) a0_0 l0_1 l0_2) else (if (Int.tmod (rd l0_1 x38_2) 2) = 0 then (spec_bxGood.l0 k2 (wrap64 (8 * t138)) ((Int.tmod (rd l0_2 x38_2) 2) != 0) l0_1 (l0_1.length : Int) (wrap64 (x38_2 + 1)) a0_0 l0_1 l0_2) else (spec_bxGood.l0 k2 (wrap64 (8 * t138)) true l0_1 (l0_1.length : Int) (wrap64 (x38_2 + 1)) a0_0 l0_1 l0_2)))) else (some false))) else (some false)) = some r := H
          have A18 := Aside0.mk A180
          clear A180
          by_cases c19 : t141 = true
          ·
           subst c19
           have H1 : ((spec_l1In.f (rd l0_2 x38_2) (wrap64 (-(wrap64 (8 * t138)))) (wrap64 (8 * t138))).bind fun t142 => (if t142 = true then (if (rd l0_1 x38_2) ≥ (rd l0_2 x38_2) then (some false) else (if x4_2 = true then (spec_bxGood.l0 k2 (wrap64 (8 * t138)) true l0_1 (l0_1.length : Int) (wrap64 (x38_2 + 1)) a0_0 l0_1 l0_2) else (if (Int.tmod (rd l0_1 x38_2) 2) = 0 then (spec_bxGood.l0 k2 (wrap64 (8 * t138)) ((Int.tmod (rd l0_2 x38_2) 2) != 0) l0_1 (l0_1.length : Int) (wrap64 (x38_2 + 1)) a0_0 l0_1 l0_2) else (spec_bxGood.l0 k2 (wrap64 (8 * t138)) true l0_1 (l0_1.length : Int) (wrap64 (x38_2 + 1)) a0_0 l0_1 l0_2)))) else (some false))) = some r := by rw [if_pos rfl] at H; exact H
           clear H
           have H := H1
           clear H1
           replace H := Option.bind_eq_some_iff.mp H
           obtain ⟨t142, A200, H⟩ := H
           replace H : (if t142 = true then (if (rd l0_1 x38_2) ≥ (rd l0_2 x38_2) then (some false) else (if x4_2 = true then (spec_bxGood.l0 k2 (wrap64 (8 * t138)) true l0_1 (l0_1.length : Int) (wrap64 (x38_2 + 1)) a0_0 l0_1 l0_2) else (if (Int.tmod (rd l0_1 x38_2) 2) = 0 then (spec_bxGood.l0 k2 (wrap64 (8 * t138)) ((Int.tmod (rd l0_2 x38_2) 2) != 0) l0_1 (l0_1.length : Int) (wrap64 (x38_2 + 1)) a0_0 l0_1 l0_2) else (spec_bxGood.l0 k2 (wrap64 (8 * t138)) true l0_1 (l0_1.length : Int) (wrap64 (x38_2 + 1)) a0_0 l0_1 l0_2)))) else (some false)) = some r := H
           have A20 := Aside0.mk A200
           clear A200
           by_cases c21 : t142 = true
           ·
            subst c21
            have H1 : (if (rd l0_1 x38_2) ≥ (rd l0_2 x38_2) then (some false) else (if x4_2 = true then (spec_bxGood.l0 k2 (wrap64 (8 * t138)) true l0_1 (l0_1.length : Int) (wrap64 (x38_2 + 1)) a0_0 l0_1 l0_2) else (if (Int.tmod (rd l0_1 x38_2) 2) = 0 then (spec_bxGood.l0 k2 (wrap64 (8 * t138)) ((Int.tmod (rd l0_2 x38_2) 2) != 0) l0_1 (l0_1.length : Int) (wrap64 (x38_2 + 1)) a0_0 l0_1 l0_2) else (spec_bxGood.l0 k2 (wrap64 (8 * t138)) true l0_1 (l0_1.length : Int) (wrap64 (x38_2 + 1)) a0_0 l0_1 l0_2)))) = some r := by rw [if_pos rfl] at H; exact H
            clear H
            have H := H1
            clear H1
            by_cases c22 : (rd l0_1 x38_2) ≥ (rd l0_2 x38_2)
            ·
             rw [if_pos c22] at H
             have c22b0 : decide ((rd l0_2 x38_2) ≤ (rd l0_1 x38_2)) = true := decide_eq_true c22
             clear c22
             obtain rfl := Option.some.inj H
             have p139 : 0 ≤ (x38_2 : Int) := of_decide_eq_true (by first | (with_reducible assumption) | assumption)
             have q139 : x38_2 < (l0_1.length : Int) := of_decide_eq_true (by first | (with_reducible assumption) | assumption)
             obtain ⟨ad139, e139, hx139_0⟩ := Kd.at_int HR0_1.out x38_2 p139 q139
             cases e139
             replace hx139_0 := (HB.out.cell (World.block_lt_of_cell? w _ hx139_0)).trans hx139_0
             replace p139 := eq_true p139
             replace q139 := eq_true q139
             have hcz23_0 : wr.cell? ⟨gb135, 0, none⟩ = some (.int .i64 a0_0) := zc BK135 0
             have hcz23_1 : wr.cell? ⟨gb135, 1, none⟩ = some (.slice (some ad139) l0_1.length c0_1) := zc BK135 1
             have hcz23_2 : wr.cell? ⟨gb135, 2, none⟩ = some (.slice A0_2 l0_2.length c0_2) := zc BK135 2
             have hfz23_0 := blk_frozen BK135.out 0
             have hfz23_1 := blk_frozen BK135.out 1
             have hfz23_2 := blk_frozen BK135.out 2
             have p140 : 0 ≤ (x38_2 : Int) := of_decide_eq_true (by first | (with_reducible assumption) | assumption)
             have q140 : x38_2 < (l0_2.length : Int) := of_decide_eq_true (by first | (with_reducible assumption) | assumption)
             obtain ⟨ad140, e140, hx140_0⟩ := Kd.at_int HR0_2.out x38_2 p140 q140
             cases e140
             replace hx140_0 := (HB.out.cell (World.block_lt_of_cell? w _ hx140_0)).trans hx140_0
             replace p140 := eq_true p140
             replace q140 := eq_true q140
             go_wp2_with (first | ((with_reducible refine gate_callee (f := 69) rfl ?_); refine goesL_ (some 52) rfl rfl Try.func69 (by kernel_rfl) rfl #[.int .i64 (rd l0_1 x38_2), .int .i64 (wrap64 (-(wrap64 (8 * t138)))), .int .i64 (wrap64 (8 * t138))] rfl zq6 ?_; (with_reducible refine (spec_l1In.calls (rd l0_1 x38_2) (wrap64 (-(wrap64 (8 * t138)))) (wrap64 (8 * t138)) true _ A18.out).mono ?_); rintro e w' ⟨rfl, ⟨nd, rfl⟩⟩; refine ⟨_, rfl, ?_⟩) | (go_at_call 69; (with_reducible refine (spec_l1In.calls (rd l0_2 x38_2) (wrap64 (-(wrap64 (8 * t138)))) (wrap64 (8 * t138)) true _ A20.out).mono ?_); rintro e w' ⟨rfl, ⟨nd, rfl⟩⟩))
             go_ret
             exact ⟨by first | rfl | (simp [errW_none, errW_some] <;> rfl) | (simp [*, errW_none, errW_some] <;> rfl), (zb1 HB)⟩
            ·
             rw [if_neg c22] at H
             have c22b0 : decide ((rd l0_2 x38_2) ≤ (rd l0_1 x38_2)) = false := decide_eq_false c22
             clear c22
             by_cases c24 : x4_2 = true
             ·
              subst c24
              have H1 : (spec_bxGood.l0 k2 (wrap64 (8 * t138)) true l0_1 (l0_1.length : Int) (wrap64 (x38_2 + 1)) a0_0 l0_1 l0_2) = some r := by rw [if_pos rfl] at H; exact H
              clear H
              have H := H1
              clear H1
              have H' := Aside0.mk H
              clear H
              have p139 : 0 ≤ (x38_2 : Int) := of_decide_eq_true (by first | (with_reducible assumption) | assumption)
              have q139 : x38_2 < (l0_1.length : Int) := of_decide_eq_true (by first | (with_reducible assumption) | assumption)
              obtain ⟨ad139, e139, hx139_0⟩ := Kd.at_int HR0_1.out x38_2 p139 q139
              cases e139
              replace hx139_0 := (HB.out.cell (World.block_lt_of_cell? w _ hx139_0)).trans hx139_0
              replace p139 := eq_true p139
              replace q139 := eq_true q139
              have hcz25_0 : wr.cell? ⟨gb135, 0, none⟩ = some (.int .i64 a0_0) := zc BK135 0
              have hcz25_1 : wr.cell? ⟨gb135, 1, none⟩ = some (.slice (some ad139) l0_1.length c0_1) := zc BK135 1
              have hcz25_2 : wr.cell? ⟨gb135, 2, none⟩ = some (.slice A0_2 l0_2.length c0_2) := zc BK135 2
              have hfz25_0 := blk_frozen BK135.out 0
              have hfz25_1 := blk_frozen BK135.out 1
              have hfz25_2 := blk_frozen BK135.out 2
              have p140 : 0 ≤ (x38_2 : Int) := of_decide_eq_true (by first | (with_reducible assumption) | assumption)
              have q140 : x38_2 < (l0_2.length : Int) := of_decide_eq_true (by first | (with_reducible assumption) | assumption)
              obtain ⟨ad140, e140, hx140_0⟩ := Kd.at_int HR0_2.out x38_2 p140 q140
              cases e140
              replace hx140_0 := (HB.out.cell (World.block_lt_of_cell? w _ hx140_0)).trans hx140_0
              replace p140 := eq_true p140
              replace q140 := eq_true q140
              go_wp2_with (first | ((with_reducible refine gate_callee (f := 69) rfl ?_); refine goesL_ (some 52) rfl rfl Try.func69 (by kernel_rfl) rfl #[.int .i64 (rd l0_1 x38_2), .int .i64 (wrap64 (-(wrap64 (8 * t138)))), .int .i64 (wrap64 (8 * t138))] rfl zq6 ?_; (with_reducible refine (spec_l1In.calls (rd l0_1 x38_2) (wrap64 (-(wrap64 (8 * t138)))) (wrap64 (8 * t138)) true _ A18.out).mono ?_); rintro e w' ⟨rfl, ⟨nd, rfl⟩⟩; refine ⟨_, rfl, ?_⟩) | (go_at_call 69; (with_reducible refine (spec_l1In.calls (rd l0_2 x38_2) (wrap64 (-(wrap64 (8 * t138)))) (wrap64 (8 * t138)) true _ A20.out).mono ?_); rintro e w' ⟨rfl, ⟨nd, rfl⟩⟩))
              go_roundg k2
              case measure => have := HJ1.out; have := HK2.out; omega
              case rel => exact ⟨(true), (wrap64 (x38_2 + 1)), (by first | rfl | (simp; done) | (simp [*]; done)), (by first | rfl | (simp; done) | (simp [*]; done)), H', ⟨by have := HJ1.out; have := HK2.out; omega⟩, ⟨by (with_reducible repeat (first | refine blk_drewN ?_ _ | refine blk_drew ?_ | refine blk_alloc ?_ _)); exact BK135.out⟩, ⟨(zb1 HB)⟩⟩
             ·
              replace c24 := Bool.eq_false_iff.mpr c24
              subst c24
              have H1 : (if (Int.tmod (rd l0_1 x38_2) 2) = 0 then (spec_bxGood.l0 k2 (wrap64 (8 * t138)) ((Int.tmod (rd l0_2 x38_2) 2) != 0) l0_1 (l0_1.length : Int) (wrap64 (x38_2 + 1)) a0_0 l0_1 l0_2) else (spec_bxGood.l0 k2 (wrap64 (8 * t138)) true l0_1 (l0_1.length : Int) (wrap64 (x38_2 + 1)) a0_0 l0_1 l0_2)) = some r := by rw [if_neg (show ¬ (false = true) by decide)] at H; exact H
              clear H
              have H := H1
              clear H1
              by_cases c26 : (Int.tmod (rd l0_1 x38_2) 2) = 0
              ·
               rw [if_pos c26] at H
               have c26b0 : ((Int.tmod (rd l0_1 x38_2) 2) == 0) = true := beq_iff_eq.mpr c26
               have c26b1 : ((Int.tmod (rd l0_1 x38_2) 2) != 0) = false := bne_eq_false_iff_eq.mpr c26
               clear c26
               have H' := Aside0.mk H
               clear H
               have p139 : 0 ≤ (x38_2 : Int) := of_decide_eq_true (by first | (with_reducible assumption) | assumption)
               have q139 : x38_2 < (l0_1.length : Int) := of_decide_eq_true (by first | (with_reducible assumption) | assumption)
               obtain ⟨ad139, e139, hx139_0⟩ := Kd.at_int HR0_1.out x38_2 p139 q139
               cases e139
               replace hx139_0 := (HB.out.cell (World.block_lt_of_cell? w _ hx139_0)).trans hx139_0
               replace p139 := eq_true p139
               replace q139 := eq_true q139
               have hcz27_0 : wr.cell? ⟨gb135, 0, none⟩ = some (.int .i64 a0_0) := zc BK135 0
               have hcz27_1 : wr.cell? ⟨gb135, 1, none⟩ = some (.slice (some ad139) l0_1.length c0_1) := zc BK135 1
               have hcz27_2 : wr.cell? ⟨gb135, 2, none⟩ = some (.slice A0_2 l0_2.length c0_2) := zc BK135 2
               have hfz27_0 := blk_frozen BK135.out 0
               have hfz27_1 := blk_frozen BK135.out 1
               have hfz27_2 := blk_frozen BK135.out 2
               have p140 : 0 ≤ (x38_2 : Int) := of_decide_eq_true (by first | (with_reducible assumption) | assumption)
               have q140 : x38_2 < (l0_2.length : Int) := of_decide_eq_true (by first | (with_reducible assumption) | assumption)
               obtain ⟨ad140, e140, hx140_0⟩ := Kd.at_int HR0_2.out x38_2 p140 q140
               cases e140
               replace hx140_0 := (HB.out.cell (World.block_lt_of_cell? w _ hx140_0)).trans hx140_0
               replace p140 := eq_true p140
               replace q140 := eq_true q140
               go_wp2_with (first | ((with_reducible refine gate_callee (f := 69) rfl ?_); refine goesL_ (some 52) rfl rfl Try.func69 (by kernel_rfl) rfl #[.int .i64 (rd l0_1 x38_2), .int .i64 (wrap64 (-(wrap64 (8 * t138)))), .int .i64 (wrap64 (8 * t138))] rfl zq6 ?_; (with_reducible refine (spec_l1In.calls (rd l0_1 x38_2) (wrap64 (-(wrap64 (8 * t138)))) (wrap64 (8 * t138)) true _ A18.out).mono ?_); rintro e w' ⟨rfl, ⟨nd, rfl⟩⟩; refine ⟨_, rfl, ?_⟩) | (go_at_call 69; (with_reducible refine (spec_l1In.calls (rd l0_2 x38_2) (wrap64 (-(wrap64 (8 * t138)))) (wrap64 (8 * t138)) true _ A20.out).mono ?_); rintro e w' ⟨rfl, ⟨nd, rfl⟩⟩))
               go_roundg k2
               case measure => have := HJ1.out; have := HK2.out; omega
               case rel => exact ⟨(((Int.tmod (rd l0_2 x38_2) 2) != 0)), (wrap64 (x38_2 + 1)), (by first | rfl | (simp; done) | (simp [*]; done)), (by first | rfl | (simp; done) | (simp [*]; done)), H', ⟨by have := HJ1.out; have := HK2.out; omega⟩, ⟨by (with_reducible repeat (first | refine blk_drewN ?_ _ | refine blk_drew ?_ | refine blk_alloc ?_ _)); exact BK135.out⟩, ⟨(zb1 HB)⟩⟩
              ·
               rw [if_neg c26] at H
               have c26b0 : ((Int.tmod (rd l0_1 x38_2) 2) == 0) = false := beq_eq_false_iff_ne.mpr c26
               have c26b1 : ((Int.tmod (rd l0_1 x38_2) 2) != 0) = true := bne_iff_ne.mpr c26
               have H' := Aside0.mk H
               clear H
               have p139 : 0 ≤ (x38_2 : Int) := of_decide_eq_true (by first | (with_reducible assumption) | assumption)
               have q139 : x38_2 < (l0_1.length : Int) := of_decide_eq_true (by first | (with_reducible assumption) | assumption)
               obtain ⟨ad139, e139, hx139_0⟩ := Kd.at_int HR0_1.out x38_2 p139 q139
               cases e139
               replace hx139_0 := (HB.out.cell (World.block_lt_of_cell? w _ hx139_0)).trans hx139_0
               replace p139 := eq_true p139
               replace q139 := eq_true q139
               have hcz28_0 : wr.cell? ⟨gb135, 0, none⟩ = some (.int .i64 a0_0) := zc BK135 0
               have hcz28_1 : wr.cell? ⟨gb135, 1, none⟩ = some (.slice (some ad139) l0_1.length c0_1) := zc BK135 1
               have hcz28_2 : wr.cell? ⟨gb135, 2, none⟩ = some (.slice A0_2 l0_2.length c0_2) := zc BK135 2
               have hfz28_0 := blk_frozen BK135.out 0
               have hfz28_1 := blk_frozen BK135.out 1
               have hfz28_2 := blk_frozen BK135.out 2
               have p140 : 0 ≤ (x38_2 : Int) := of_decide_eq_true (by first | (with_reducible assumption) | assumption)
               have q140 : x38_2 < (l0_2.length : Int) := of_decide_eq_true (by first | (with_reducible assumption) | assumption)
               obtain ⟨ad140, e140, hx140_0⟩ := Kd.at_int HR0_2.out x38_2 p140 q140
               cases e140
               replace hx140_0 := (HB.out.cell (World.block_lt_of_cell? w _ hx140_0)).trans hx140_0
               replace p140 := eq_true p140
               replace q140 := eq_true q140
               go_wp2_with (first | ((with_reducible refine gate_callee (f := 69) rfl ?_); refine goesL_ (some 52) rfl rfl Try.func69 (by kernel_rfl) rfl #[.int .i64 (rd l0_1 x38_2), .int .i64 (wrap64 (-(wrap64 (8 * t138)))), .int .i64 (wrap64 (8 * t138))] rfl zq6 ?_; (with_reducible refine (spec_l1In.calls (rd l0_1 x38_2) (wrap64 (-(wrap64 (8 * t138)))) (wrap64 (8 * t138)) true _ A18.out).mono ?_); rintro e w' ⟨rfl, ⟨nd, rfl⟩⟩; refine ⟨_, rfl, ?_⟩) | (go_at_call 69; (with_reducible refine (spec_l1In.calls (rd l0_2 x38_2) (wrap64 (-(wrap64 (8 * t138)))) (wrap64 (8 * t138)) true _ A20.out).mono ?_); rintro e w' ⟨rfl, ⟨nd, rfl⟩⟩))
               go_roundg k2
               case measure => have := HJ1.out; have := HK2.out; omega
               case rel => exact ⟨(true), (wrap64 (x38_2 + 1)), (by first | rfl | (simp; done) | (simp [*]; done)), (by first | rfl | (simp; done) | (simp [*]; done)), H', ⟨by have := HJ1.out; have := HK2.out; omega⟩, ⟨by (with_reducible repeat (first | refine blk_drewN ?_ _ | refine blk_drew ?_ | refine blk_alloc ?_ _)); exact BK135.out⟩, ⟨(zb1 HB)⟩⟩
           ·
            replace c21 := Bool.eq_false_iff.mpr c21
            subst c21
            have H1 : (some false) = some r := by rw [if_neg (show ¬ (false = true) by decide)] at H; exact H
            clear H
            have H := H1
            clear H1
            obtain rfl := Option.some.inj H
            have p139 : 0 ≤ (x38_2 : Int) := of_decide_eq_true (by first | (with_reducible assumption) | assumption)
            have q139 : x38_2 < (l0_1.length : Int) := of_decide_eq_true (by first | (with_reducible assumption) | assumption)
            obtain ⟨ad139, e139, hx139_0⟩ := Kd.at_int HR0_1.out x38_2 p139 q139
            cases e139
            replace hx139_0 := (HB.out.cell (World.block_lt_of_cell? w _ hx139_0)).trans hx139_0
            replace p139 := eq_true p139
            replace q139 := eq_true q139
            have hcz29_0 : wr.cell? ⟨gb135, 0, none⟩ = some (.int .i64 a0_0) := zc BK135 0
            have hcz29_1 : wr.cell? ⟨gb135, 1, none⟩ = some (.slice (some ad139) l0_1.length c0_1) := zc BK135 1
            have hcz29_2 : wr.cell? ⟨gb135, 2, none⟩ = some (.slice A0_2 l0_2.length c0_2) := zc BK135 2
            have hfz29_0 := blk_frozen BK135.out 0
            have hfz29_1 := blk_frozen BK135.out 1
            have hfz29_2 := blk_frozen BK135.out 2
            have p140 : 0 ≤ (x38_2 : Int) := of_decide_eq_true (by first | (with_reducible assumption) | assumption)
            have q140 : x38_2 < (l0_2.length : Int) := of_decide_eq_true (by first | (with_reducible assumption) | assumption)
            obtain ⟨ad140, e140, hx140_0⟩ := Kd.at_int HR0_2.out x38_2 p140 q140
            cases e140
            replace hx140_0 := (HB.out.cell (World.block_lt_of_cell? w _ hx140_0)).trans hx140_0
            replace p140 := eq_true p140
            replace q140 := eq_true q140
            go_wp2_with (first | ((with_reducible refine gate_callee (f := 69) rfl ?_); refine goesL_ (some 52) rfl rfl Try.func69 (by kernel_rfl) rfl #[.int .i64 (rd l0_1 x38_2), .int .i64 (wrap64 (-(wrap64 (8 * t138)))), .int .i64 (wrap64 (8 * t138))] rfl zq6 ?_; (with_reducible refine (spec_l1In.calls (rd l0_1 x38_2) (wrap64 (-(wrap64 (8 * t138)))) (wrap64 (8 * t138)) true _ A18.out).mono ?_); rintro e w' ⟨rfl, ⟨nd, rfl⟩⟩; refine ⟨_, rfl, ?_⟩) | (go_at_call 69; (with_reducible refine (spec_l1In.calls (rd l0_2 x38_2) (wrap64 (-(wrap64 (8 * t138)))) (wrap64 (8 * t138)) false _ A20.out).mono ?_); rintro e w' ⟨rfl, ⟨nd, rfl⟩⟩))
            go_ret
            exact ⟨by first | rfl | (simp [errW_none, errW_some] <;> rfl) | (simp [*, errW_none, errW_some] <;> rfl), (zb1 HB)⟩
          ·
           replace c19 := Bool.eq_false_iff.mpr c19
           subst c19
           have H1 : (some false) = some r := by rw [if_neg (show ¬ (false = true) by decide)] at H; exact H
           clear H
           have H := H1
           clear H1
           obtain rfl := Option.some.inj H
           have p139 : 0 ≤ (x38_2 : Int) := of_decide_eq_true (by first | (with_reducible assumption) | assumption)
           have q139 : x38_2 < (l0_1.length : Int) := of_decide_eq_true (by first | (with_reducible assumption) | assumption)
           obtain ⟨ad139, e139, hx139_0⟩ := Kd.at_int HR0_1.out x38_2 p139 q139
           cases e139
           replace hx139_0 := (HB.out.cell (World.block_lt_of_cell? w _ hx139_0)).trans hx139_0
           replace p139 := eq_true p139
           replace q139 := eq_true q139
           have hcz30_0 : wr.cell? ⟨gb135, 0, none⟩ = some (.int .i64 a0_0) := zc BK135 0
           have hcz30_1 : wr.cell? ⟨gb135, 1, none⟩ = some (.slice (some ad139) l0_1.length c0_1) := zc BK135 1
           have hcz30_2 : wr.cell? ⟨gb135, 2, none⟩ = some (.slice A0_2 l0_2.length c0_2) := zc BK135 2
           have hfz30_0 := blk_frozen BK135.out 0
           have hfz30_1 := blk_frozen BK135.out 1
           have hfz30_2 := blk_frozen BK135.out 2
           have p140 : 0 ≤ (x38_2 : Int) := of_decide_eq_true (by first | (with_reducible assumption) | assumption)
           have q140 : x38_2 < (l0_2.length : Int) := of_decide_eq_true (by first | (with_reducible assumption) | assumption)
           obtain ⟨ad140, e140, hx140_0⟩ := Kd.at_int HR0_2.out x38_2 p140 q140
           cases e140
           replace hx140_0 := (HB.out.cell (World.block_lt_of_cell? w _ hx140_0)).trans hx140_0
           replace p140 := eq_true p140
           replace q140 := eq_true q140
           go_wp2_with (first | ((with_reducible refine gate_callee (f := 69) rfl ?_); refine goesL_ (some 52) rfl rfl Try.func69 (by kernel_rfl) rfl #[.int .i64 (rd l0_1 x38_2), .int .i64 (wrap64 (-(wrap64 (8 * t138)))), .int .i64 (wrap64 (8 * t138))] rfl zq6 ?_; (with_reducible refine (spec_l1In.calls (rd l0_1 x38_2) (wrap64 (-(wrap64 (8 * t138)))) (wrap64 (8 * t138)) false _ A18.out).mono ?_); rintro e w' ⟨rfl, ⟨nd, rfl⟩⟩; refine ⟨_, rfl, ?_⟩))
           go_ret
           exact ⟨by first | rfl | (simp [errW_none, errW_some] <;> rfl) | (simp [*, errW_none, errW_some] <;> rfl), (zb1 HB)⟩
         ·
          rw [if_neg c17] at H
          exact absurd H (by simp)
        ·
         rw [if_neg c16] at H
         exact absurd H (by simp)
       ·
        rw [if_neg c15] at H
        exact absurd H (by simp)
      ·
       rw [if_neg c14] at H
       have c14b0 : decide (x38_2 < (l0_1.length : Int)) = false := decide_eq_false c14
       clear c14
       obtain rfl := Option.some.inj H
       go_wp2
       go_ret
       exact ⟨by first | rfl | (simp [errW_none, errW_some] <;> rfl) | (simp [*, errW_none, errW_some] <;> rfl), (zb1 HB)⟩
end Go.Proofs.Ytgaoniapddpaaaa.PD
