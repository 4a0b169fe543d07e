-- By wip/mk/drv.py
import Derived.Test.YtfnmppeoleicbaaQPrimlyPDx0
import Derived.Test.YtfnmppeoleicbaaQPrimlyPDx1
import Derived.Test.YtfnmppeoleicbaaQPrimlyPDx3
namespace Go.Proofs.Ytfnmppeoleicbaa.PD
open Go.RowKit Go.Proofs.YtfnmppeoleicbaaW.PrintWords Go.Proofs.YtfnmppeoleicbaaW.PrintLast Go.Proofs.YtfnmppeoleicbaaW.PrintMore
attribute [local go_sem] max2_int min2_int max_two min_two max_three min_three max_four min_four
set_option linter.unusedVariables false
set_option linter.unusedSimpArgs false
/-! ### impl_primitivePoly: function 63 -/
set_option maxHeartbeats 8000000 in
set_option maxRecDepth 100000 in
theorem impl_primitivePoly.calls (k : Nat) (A0 : Option Addr) (c0 : Nat) (l0 : List (S55)) (r : List (S55)) (w : World) (hr0 : Kd.C k55 w A0 l0.length l0) (hc0 : l0.length ≤ c0) (h : impl_primitivePoly.f k l0 = some r) :
  Calls Try.prog 63 #[.slice A0 l0.length c0] w fun e w' => ∃ v0_ : Value, e = .returned (v0_) ∧ Kd.R k55 55 w' w.heap.size (fun _ => True) v0_ r ∧ Below w.heap.size w w' := by
 have hu55 := Try.underlying55
 have HR0 := Aside0.mk hr0
 have HC0 := Aside0.mk hc0
 clear hr0 hc0
 have HB := Aside0.mk (Below.refl w.heap.size w)
 have H : (impl_primitivePoly.l0 k l0 0 l0 (l0.length : Int) 0) = some r := h
 clear h
 have H' := Aside0.mk H
 clear H
 go_enter Try.func63, Try.ntmps63
 go_wp2
 go_loopg [3, 12] k (fun kq v3 v12 w' => ∃ (x3_1 : Int) (x12_1 : Int), v3 = .int .i64 x3_1 ∧ v12 = .int .i64 x12_1 ∧ Aside0 (impl_primitivePoly.l0 kq l0 x3_1 l0 (l0.length : Int) x12_1 = some r) ∧ Aside0 (kq ≤ k) ∧ Aside0 (Below w.heap.size w w'))
 case atStart => exact ⟨(0), (0), (by first | rfl | (simp; done) | (simp [*]; done)), (by first | rfl | (simp; done) | (simp [*]; done)), H', ⟨Nat.le_refl _⟩, ⟨(zb0 HB)⟩⟩
 case round =>
  clear H'
  obtain ⟨x3_1, x12_1, rfl, rfl, HA, HK1, HB⟩ := hrel
  cases gk with
  | zero => exact absurd HA.out (by simp [impl_primitivePoly.l0])
  | succ k1 =>
   have H := HA.out
   clear HA
   simp only [impl_primitivePoly.l0] at H
   by_cases c2 : x12_1 < (l0.length : Int)
   ·
    rw [if_pos c2] at H
    have c2b0 : decide (x12_1 < (l0.length : Int)) = true := decide_eq_true c2
    clear c2
    by_cases c3 : 0 ≤ x12_1
    ·
     rw [if_pos c3] at H
     have c3b0 : decide (0 ≤ x12_1) = true := decide_eq_true c3
     clear c3
     by_cases c4 : x12_1 < (l0.length : Int)
     ·
      rw [if_pos c4] at H
      have c4b0 : decide (x12_1 < (l0.length : Int)) = true := decide_eq_true c4
      clear c4
      replace H := Option.bind_eq_some_iff.mp H
      obtain ⟨t236, A50, H⟩ := H
      replace H : (impl_primitivePoly.l0 k1 l0 t236 l0 (l0.length : Int) (wrap64 (x12_1 + 1))) = some r := H
      have A5 := Aside0.mk A50
      clear A50
      have H' := Aside0.mk H
      clear H
      have p234 : 0 ≤ (x12_1 : Int) := of_decide_eq_true (by first | (with_reducible assumption) | assumption)
      have q234 : x12_1 < (l0.length : Int) := of_decide_eq_true (by first | (with_reducible assumption) | assumption)
      obtain ⟨ad234, e234, hx234_0, hx234_1, hx234_2, hx234_3⟩ := at_T55 HR0.out x12_1 p234 q234
      cases e234
      replace hx234_0 := (HB.out.cell (World.block_lt_of_cell? w _ hx234_0)).trans hx234_0
      replace hx234_1 := (HB.out.cell (World.block_lt_of_cell? w _ hx234_1)).trans hx234_1
      replace hx234_2 := (HB.out.cell (World.block_lt_of_cell? w _ hx234_2)).trans hx234_2
      replace hx234_3 := (HB.out.cell (World.block_lt_of_cell? w _ hx234_3)).trans hx234_3
      replace p234 := eq_true p234
      replace q234 := eq_true q234
      go_wp2_with (first | ((with_reducible refine gate_dst (N := 5) rfl ?_); refine zbe (N := 5) (cs := #[.int .i64 0, .int .i64 0, .int .i64 0, .int .i64 0]) (t := 55) ?_; intro gb235 hg w6 hbox hb; have BK235 := Aside0.mk (hbox); have GW235 := Aside0.mk (zge (zb0 HB) hg); have GE235 := GW235; replace HB := Aside0.mk (below_step (zb0 HB) hb); clear hb hbox hg; have hcz7_0 : w6.cell? ⟨gb235, 0, none⟩ = some (.int .i64 0) := zc BK235 0; have hcz7_1 : w6.cell? ⟨gb235, 1, none⟩ = some (.int .i64 0) := zc BK235 1; have hcz7_2 : w6.cell? ⟨gb235, 2, none⟩ = some (.int .i64 0) := zc BK235 2; have hcz7_3 : w6.cell? ⟨gb235, 3, none⟩ = some (.int .i64 0) := zc BK235 3; have hfz7_0 := blk_frozen BK235.out 0; have hfz7_1 := blk_frozen BK235.out 1; have hfz7_2 := blk_frozen BK235.out 2; have hfz7_3 := blk_frozen BK235.out 3) | ((with_reducible refine gate_callee (f := 92) rfl ?_); refine goesL_ (some 19) rfl rfl Try.func92 (by kernel_rfl) rfl #[.int .i64 x3_1, .int .i64 ((rd_T55 l0 x12_1).f0)] rfl zq6 ?_; (with_reducible refine (impl_gcd.calls k1 x3_1 ((rd_T55 l0 x12_1).f0) t236 _ A5.out).mono ?_); rintro e w8 ⟨rfl, hb⟩; refine ⟨_, rfl, ?_⟩; replace BK235 := Aside0.mk (blk_below (g := gb235) (o := .cells #[.int .i64 ((rd_T55 l0 x12_1).f0), .int .i64 ((rd_T55 l0 x12_1).f1), .int .i64 ((rd_T55 l0 x12_1).f2), .int .i64 ((rd_T55 l0 x12_1).f3)] 55 (0, 0)) (by (with_reducible repeat (first | refine blk_drewN ?_ _ | refine blk_drew ?_ | refine blk_alloc ?_ _)); refine blk_put (cs := #[.int .i64 ((rd_T55 l0 x12_1).f0), .int .i64 ((rd_T55 l0 x12_1).f1), .int .i64 ((rd_T55 l0 x12_1).f2), .int .i64 0]) ?_ 3 _ rfl; (with_reducible repeat (first | refine blk_drewN ?_ _ | refine blk_drew ?_ | refine blk_alloc ?_ _)); refine blk_put (cs := #[.int .i64 ((rd_T55 l0 x12_1).f0), .int .i64 ((rd_T55 l0 x12_1).f1), .int .i64 0, .int .i64 0]) ?_ 2 _ rfl; (with_reducible repeat (first | refine blk_drewN ?_ _ | refine blk_drew ?_ | refine blk_alloc ?_ _)); refine blk_put (cs := #[.int .i64 ((rd_T55 l0 x12_1).f0), .int .i64 0, .int .i64 0, .int .i64 0]) ?_ 1 _ rfl; (with_reducible repeat (first | refine blk_drewN ?_ _ | refine blk_drew ?_ | refine blk_alloc ?_ _)); refine blk_put (cs := #[.int .i64 0, .int .i64 0, .int .i64 0, .int .i64 0]) ?_ 0 _ rfl; (with_reducible repeat (first | refine blk_drewN ?_ _ | refine blk_drew ?_ | refine blk_alloc ?_ _)); exact BK235.out) hb); replace HB := Aside0.mk (below_step (zb1 HB) hb); (try clear hb); (try clear hb2); (try clear hk); (try clear hi)))
      go_roundg k1
      case measure => have := HK1.out; omega
      case rel => exact ⟨(t236), (wrap64 (x12_1 + 1)), (by first | rfl | (simp; done) | (simp [*]; done)), (by first | rfl | (simp; done) | (simp [*]; done)), H', ⟨by have := HK1.out; omega⟩, ⟨(zb1 HB)⟩⟩
     ·
      rw [if_neg c4] at H
      exact absurd H (by simp)
    ·
     rw [if_neg c3] at H
     exact absurd H (by simp)
   ·
    rw [if_neg c2] at H
    have c2b0 : decide (x12_1 < (l0.length : Int)) = false := decide_eq_false c2
    clear c2
    have HC9 := Aside0.mk H
    clear H
    go_upto_region 8 with (fail)
    go_cut [33] (fun v33 wc => ∃ (kq : Nat) (x33_8 : Bool), v33 = .bool x33_8 ∧ Aside0 (impl_primitivePoly.j1 kq l0 x3_1 x33_8 = some r) ∧ Aside0 (kq ≤ k1) ∧ Aside0 (Below w.heap.size w wc))
    case first =>
     have H := HC9.out
     clear HC9
     by_cases c10 : (l0.length : Int) > 0
     ·
      rw [if_pos c10] at H
      have c10b0 : decide (0 < (l0.length : Int)) = true := decide_eq_true c10
      have c10b1 : decide (0 < l0.length) = true := decide_eq_true (by omega)
      clear c10
      (first | rw [c10b0] | (simp only [i64_w, i32_w]; rw [c10b0]) | skip)
      obtain ⟨ji11, hji11⟩ : ∃ j_ : Int, (wrap64 ((l0.length : Int) - 1)) = j_ := ⟨_, rfl⟩
      replace H : (if 0 ≤ (ji11) then (if (ji11) < (l0.length : Int) then (impl_primitivePoly.j1 k1 l0 x3_1 (decide (((rd_T55 l0 (ji11)).f0) < 0))) else (none)) else (none)) = some r := by first | (rw [hji11] at H; exact H) | (simp only [hji11] at H ⊢; exact H)
      have hji11w : (IntKind.i64.wrap ((l0.length : Int) - 1)) = ji11 := (i64_w _).trans hji11
      by_cases c12 : 0 ≤ (ji11)
      ·
       rw [if_pos c12] at H
       have c12b0 : decide (0 ≤ (ji11)) = true := decide_eq_true c12
       clear c12
       by_cases c13 : (ji11) < (l0.length : Int)
       ·
        rw [if_pos c13] at H
        have c13b0 : decide ((ji11) < (l0.length : Int)) = true := decide_eq_true c13
        clear c13
        have H' := Aside0.mk H
        clear H
        have p237 : 0 ≤ ((ji11) : Int) := of_decide_eq_true (by first | (with_reducible assumption) | assumption)
        have q237 : (ji11) < (l0.length : Int) := of_decide_eq_true (by first | (with_reducible assumption) | assumption)
        obtain ⟨ad237, e237, hx237_0, hx237_1, hx237_2, hx237_3⟩ := at_T55 HR0.out (ji11) p237 q237
        cases e237
        replace hx237_0 := (HB.out.cell (World.block_lt_of_cell? w _ hx237_0)).trans hx237_0
        replace hx237_1 := (HB.out.cell (World.block_lt_of_cell? w _ hx237_1)).trans hx237_1
        replace hx237_2 := (HB.out.cell (World.block_lt_of_cell? w _ hx237_2)).trans hx237_2
        replace hx237_3 := (HB.out.cell (World.block_lt_of_cell? w _ hx237_3)).trans hx237_3
        replace p237 := eq_true p237
        replace q237 := eq_true q237
        go_wp2
        go_meet
        case rel => exact ⟨_, (decide (((rd_T55 l0 (ji11)).f0) < 0)), (by first | rfl | (simp; done) | (simp only [← hji11] <;> (first | rfl | simp)) | (simp [*]; done)), H', ⟨by have := HK1.out; first | omega | exact Nat.le_refl _⟩, ⟨(zb0 HB)⟩⟩
       ·
        rw [if_neg c13] at H
        exact absurd H (by simp)
      ·
       rw [if_neg c12] at H
       exact absurd H (by simp)
     ·
      rw [if_neg c10] at H
      have c10b0 : decide (0 < (l0.length : Int)) = false := decide_eq_false c10
      have c10b1 : decide (0 < l0.length) = false := decide_eq_false (by omega)
      clear c10
      (first | rw [c10b0] | (simp only [i64_w, i32_w]; rw [c10b0]) | skip)
      have H' := Aside0.mk H
      clear H
      go_wp2
      go_meet
      case rel => exact ⟨_, (false), (by first | rfl | (simp; done) | (simp [*]; done)), H', ⟨by have := HK1.out; first | omega | exact Nat.le_refl _⟩, ⟨(zb0 HB)⟩⟩
    case rest =>
     clear HC9
     try clear c1
     try clear c2
     try clear c2b0
     try clear p2
     try clear q2
     try clear hx2
     try clear c3
     try clear c3b0
     try clear c4
     try clear c4b0
     try clear c6
     try clear p6
     try clear c9
     try clear c10
     try clear c10b0
     try clear c10b1
     try clear c12
     try clear c12b0
     try clear c13
     try clear c13b0
     try clear hcz7_0
     try clear hcz7_1
     try clear hcz7_2
     try clear hcz7_3
     try clear hfz7_0
     try clear hfz7_1
     try clear hfz7_2
     try clear hfz7_3
     try clear hx234_0
     try clear hx234_1
     try clear hx234_2
     try clear hx234_3
     try clear hx237_0
     try clear hx237_1
     try clear hx237_2
     try clear hx237_3
     try clear p234
     try clear p237
     try clear q234
     try clear q237
     obtain ⟨kq, x33_8, rfl, HA, HJ8, HB⟩ := hcut
     cases kq with
     | zero => exact absurd HA.out (by simp [impl_primitivePoly.j1])
     | succ kj8 =>
      have H := HA.out
      clear HA
      simp only [impl_primitivePoly.j1] at H
      have HC14 := Aside0.mk H
      clear H
      go_upto_if 33 with (fail)
      go_cut [3] (fun v3 wc => ∃ (kq : Nat) (x3_13 : Int), v3 = .int .i64 x3_13 ∧ Aside0 (impl_primitivePoly.j2 kq l0 x3_13 = some r) ∧ Aside0 (kq ≤ kj8) ∧ Aside0 (Below w.heap.size w wc))
      case first =>
       have H := HC14.out
       clear HC14
       by_cases c15 : x33_8 = true
       ·
        subst c15
        have H1 : (impl_primitivePoly.j2 kj8 l0 (wrap64 (-x3_1))) = some r := by rw [if_pos rfl] at H; exact H
        clear H
        have H := H1
        clear H1
        have H' := Aside0.mk H
        clear H
        go_wp2
        go_meet
        case rel => exact ⟨_, (wrap64 (-x3_1)), (by first | rfl | (simp; done) | (simp [*]; done)), H', ⟨by have := HK1.out; have := HJ8.out; first | omega | exact Nat.le_refl _⟩, ⟨(zb0 HB)⟩⟩
       ·
        replace c15 := Bool.eq_false_iff.mpr c15
        subst c15
        have H1 : (impl_primitivePoly.j2 kj8 l0 x3_1) = some r := by rw [if_neg (show ¬ (false = true) by decide)] at H; exact H
        clear H
        have H := H1
        clear H1
        have H' := Aside0.mk H
        clear H
        go_wp2
        go_meet
        case rel => exact ⟨_, (x3_1), (by first | rfl | (simp; done) | (simp [*]; done)), H', ⟨by have := HK1.out; have := HJ8.out; first | omega | exact Nat.le_refl _⟩, ⟨(zb0 HB)⟩⟩
      case rest =>
       clear HC14
       try clear c1
       try clear c2
       try clear c2b0
       try clear p2
       try clear q2
       try clear hx2
       try clear c3
       try clear c3b0
       try clear c4
       try clear c4b0
       try clear c6
       try clear p6
       try clear c9
       try clear c10
       try clear c10b0
       try clear c10b1
       try clear c12
       try clear c12b0
       try clear c13
       try clear c13b0
       try clear c15
       try clear hcz7_0
       try clear hcz7_1
       try clear hcz7_2
       try clear hcz7_3
       try clear hfz7_0
       try clear hfz7_1
       try clear hfz7_2
       try clear hfz7_3
       try clear hx234_0
       try clear hx234_1
       try clear hx234_2
       try clear hx234_3
       try clear hx237_0
       try clear hx237_1
       try clear hx237_2
       try clear hx237_3
       try clear p2
       try clear p234
       try clear p237
       try clear p6
       try clear q2
       try clear q234
       try clear q237
       obtain ⟨kq, x3_13, rfl, HA, HJ13, HB⟩ := hcut
       cases kq with
       | zero => exact absurd HA.out (by simp [impl_primitivePoly.j2])
       | succ kj13 =>
        have H := HA.out
        clear HA
        simp only [impl_primitivePoly.j2] at H
        have H' := Aside0.mk H
        clear H
        go_wp2
        go_loopg [7, 38] kj13 (fun kq v7 v38 w' => ∃ (x7_4 : List (S55)) (x38_4 : Int), v38 = .int .i64 x38_4 ∧ Aside0 (impl_primitivePoly.l1 kq x3_13 x7_4 l0 (l0.length : Int) x38_4 = some r) ∧ Aside0 (kq ≤ kj13) ∧ Aside0 (Kd.R k55 55 w' w.heap.size (fun _ => True) v7 x7_4) ∧ Aside0 (Below w.heap.size w w'))
        case atStart => exact ⟨(([] : List (S55))), (0), (by first | rfl | (simp; done) | (simp [*]; done)), H', ⟨Nat.le_refl _⟩, ⟨by first | exact Kd.R_nil _ _ _ _ _ | exact Kd.N_nil _ _ _ _ _ | exact Kd.V_nil _ _ _ _ _ | exact Kd.Q_nil _ _ _ _ _ | exact Kd.S_nil _ _ _ _ _⟩, ⟨(zb0 HB)⟩⟩
        case round =>
         clear H'
         try clear c1
         try clear c2
         try clear c2b0
         try clear p2
         try clear q2
         try clear hx2
         try clear c3
         try clear c3b0
         try clear c4
         try clear c4b0
         try clear c6
         try clear p6
         try clear c9
         try clear c10
         try clear c10b0
         try clear c10b1
         try clear c12
         try clear c12b0
         try clear c13
         try clear c13b0
         try clear c15
         try clear hcz7_0
         try clear hcz7_1
         try clear hcz7_2
         try clear hcz7_3
         try clear hfz7_0
         try clear hfz7_1
         try clear hfz7_2
         try clear hfz7_3
         try clear hx234_0
         try clear hx234_1
         try clear hx234_2
         try clear hx234_3
         try clear hx237_0
         try clear hx237_1
         try clear hx237_2
         try clear hx237_3
         try clear p2
         try clear p234
         try clear p237
         try clear p6
         try clear q2
         try clear q234
         try clear q237
         obtain ⟨x7_4, x38_4, rfl, HA, HK4, HO_7, HB⟩ := hrel
         cases gk with
         | zero => exact absurd HA.out (by simp [impl_primitivePoly.l1])
         | succ k4 =>
          have H := HA.out
          clear HA
          simp only [impl_primitivePoly.l1] at H
          by_cases c16 : x38_4 < (l0.length : Int)
          ·
           rw [if_pos c16] at H
           have c16b0 : decide (x38_4 < (l0.length : Int)) = true := decide_eq_true c16
           clear c16
           by_cases c17 : 0 ≤ x38_4
           ·
            rw [if_pos c17] at H
            have c17b0 : decide (0 ≤ x38_4) = true := decide_eq_true c17
            clear c17
            by_cases c18 : x38_4 < (l0.length : Int)
            ·
             rw [if_pos c18] at H
             have c18b0 : decide (x38_4 < (l0.length : Int)) = true := decide_eq_true c18
             clear c18
             by_cases c19 : x3_13 = 0
             ·
              rw [if_pos c19] at H
              exact absurd H (by simp)
             ·
              rw [if_neg c19] at H
              have c19b0 : (x3_13 == 0) = false := beq_eq_false_iff_ne.mpr c19
              have c19b1 : (x3_13 != 0) = true := bne_iff_ne.mpr c19
              by_cases c20 : x7_4.length < 4398046511104
              ·
               rw [if_pos c20] at H
               have LMc20 := Aside0.mk c20
               clear c20
               obtain ⟨y240, hy240⟩ : ∃ y_ : List (S55), y_ = (x7_4 ++ [(⟨wrap64 (Int.tdiv ((rd_T55 l0 x38_4).f0) x3_13), (rd_T55 l0 x38_4).f1, (rd_T55 l0 x38_4).f2, (rd_T55 l0 x38_4).f3⟩ : S55)]) := ⟨_, rfl⟩
               replace H : (impl_primitivePoly.l1 k4 x3_13 y240 l0 (l0.length : Int) (wrap64 (x38_4 + 1))) = some r := by first | (rw [hy240]; with_reducible exact H) | (have H2_ := (Option.bind_some _ _).symm.trans H; rw [hy240]; with_reducible exact H2_) | (have H2_ := (Option.bind_some _ _).symm.trans H; with_reducible exact H2_) | with_reducible exact H | (rw [hy240]; exact H) | exact H
               have Ny240 := Aside0.mk hy240
               clear hy240
               have H' := Aside0.mk H
               clear H
               have p238 : 0 ≤ (x38_4 : Int) := of_decide_eq_true (by first | (with_reducible assumption) | assumption)
               have q238 : x38_4 < (l0.length : Int) := of_decide_eq_true (by first | (with_reducible assumption) | assumption)
               obtain ⟨ad238, e238, hx238_0, hx238_1, hx238_2, hx238_3⟩ := at_T55 HR0.out x38_4 p238 q238
               cases e238
               replace hx238_0 := (HB.out.cell (World.block_lt_of_cell? w _ hx238_0)).trans hx238_0
               replace hx238_1 := (HB.out.cell (World.block_lt_of_cell? w _ hx238_1)).trans hx238_1
               replace hx238_2 := (HB.out.cell (World.block_lt_of_cell? w _ hx238_2)).trans hx238_2
               replace hx238_3 := (HB.out.cell (World.block_lt_of_cell? w _ hx238_3)).trans hx238_3
               replace p238 := eq_true p238
               replace q238 := eq_true q238
               go_wp2_with (first | ((with_reducible refine gate_dst (N := 9) rfl ?_); refine zbe (N := 9) (cs := #[.int .i64 0, .int .i64 0, .int .i64 0, .int .i64 0]) (t := 55) ?_; intro gb239 hg w21 hbox hb; have BK239 := Aside0.mk (hbox); have GW239 := Aside0.mk (zge (zb0 HB) hg); have GE239 := GW239; replace HO_7 := Aside0.mk (Kd.R_below (Kd.R_elderB (zq3 HO_7) gb239 (Nat.le_of_eq hg.symm)) hb); replace HB := Aside0.mk (below_step (zb0 HB) hb); clear hb hbox hg; have hcz22_0 : w21.cell? ⟨gb239, 0, none⟩ = some (.int .i64 0) := zc BK239 0; have hcz22_1 : w21.cell? ⟨gb239, 1, none⟩ = some (.int .i64 0) := zc BK239 1; have hcz22_2 : w21.cell? ⟨gb239, 2, none⟩ = some (.int .i64 0) := zc BK239 2; have hcz22_3 : w21.cell? ⟨gb239, 3, none⟩ = some (.int .i64 0) := zc BK239 3; have hfz22_0 := blk_frozen BK239.out 0; have hfz22_1 := blk_frozen BK239.out 1; have hfz22_2 := blk_frozen BK239.out 2; have hfz22_3 := blk_frozen BK239.out 3) | ((with_reducible refine gate_builtin (b := .append) (xs := #[.tmp 47, .tmp 49]) rfl ?_); at_builtin; refine Kd.R_append k55 (w0 := w) w.heap.size rfl (.tmp 47) (.tmp 49) 25 55 (.agg #[(.int .i64 0), (.int .i64 0), (.int .i64 0), (.int .i64 0)]) 32 rfl Try.underlying25 info55 rfl (by decide) (by omega) u7 x7_4 (⟨wrap64 (Int.tdiv ((rd_T55 l0 x38_4).f0) x3_13), (rd_T55 l0 x38_4).f1, (rd_T55 l0 x38_4).f2, (rd_T55 l0 x38_4).f3⟩ : S55) [.int .i64 (wrap64 (Int.tdiv ((rd_T55 l0 x38_4).f0) x3_13)), .int .i64 ((rd_T55 l0 x38_4).f1), .int .i64 ((rd_T55 l0 x38_4).f2), .int .i64 ((rd_T55 l0 x38_4).f3)] (fun k_ => k_ ≠ gb239) (fun _ => False) rfl (by first | (go_simp; done) | (go_simp; rfl)) ?aP (fun _ hk => hk.elim) ?aF ?aO ?aB ?aS ?aL ?_; (case aP => exact k55_mkM _ _ _ (⟨wrap64 (Int.tdiv ((rd_T55 l0 x38_4).f0) x3_13), (rd_T55 l0 x38_4).f1, (rd_T55 l0 x38_4).f2, (rd_T55 l0 x38_4).f3⟩ : S55)); (case aB => exact (zb1 HB)); (case aF => exact (fun k_ hk => Kd.freshB (g := gb239) (o := .cells #[.int .i64 (wrap64 (Int.tdiv ((rd_T55 l0 x38_4).f0) x3_13)), .int .i64 ((rd_T55 l0 x38_4).f1), .int .i64 ((rd_T55 l0 x38_4).f2), .int .i64 ((rd_T55 l0 x38_4).f3)] 55 (0, 0)) (by (with_reducible repeat (first | refine blk_drewN ?_ _ | refine blk_drew ?_ | refine blk_alloc ?_ _)); refine blk_put (cs := #[.int .i64 ((rd_T55 l0 x38_4).f0), .int .i64 ((rd_T55 l0 x38_4).f1), .int .i64 ((rd_T55 l0 x38_4).f2), .int .i64 ((rd_T55 l0 x38_4).f3)]) ?_ 0 _ rfl; (with_reducible repeat (first | refine blk_drewN ?_ _ | refine blk_drew ?_ | refine blk_alloc ?_ _)); refine blk_put (cs := #[.int .i64 ((rd_T55 l0 x38_4).f0), .int .i64 ((rd_T55 l0 x38_4).f1), .int .i64 ((rd_T55 l0 x38_4).f2), .int .i64 0]) ?_ 3 _ rfl; (with_reducible repeat (first | refine blk_drewN ?_ _ | refine blk_drew ?_ | refine blk_alloc ?_ _)); refine blk_put (cs := #[.int .i64 ((rd_T55 l0 x38_4).f0), .int .i64 ((rd_T55 l0 x38_4).f1), .int .i64 0, .int .i64 0]) ?_ 2 _ rfl; (with_reducible repeat (first | refine blk_drewN ?_ _ | refine blk_drew ?_ | refine blk_alloc ?_ _)); refine blk_put (cs := #[.int .i64 ((rd_T55 l0 x38_4).f0), .int .i64 0, .int .i64 0, .int .i64 0]) ?_ 1 _ rfl; (with_reducible repeat (first | refine blk_drewN ?_ _ | refine blk_drew ?_ | refine blk_alloc ?_ _)); refine blk_put (cs := #[.int .i64 0, .int .i64 0, .int .i64 0, .int .i64 0]) ?_ 0 _ rfl; (with_reducible repeat (first | refine blk_drewN ?_ _ | refine blk_drew ?_ | refine blk_alloc ?_ _)); exact BK239.out) k_ hk)); (case aO => exact (by (with_reducible repeat (first | apply Kd.R_alloc | apply Kd.R_drewN | apply Kd.R_drew)); exact Kd.R_mono (Kd.R_far (p := ⟨gb239, 0, none⟩) (Kd.R_far (p := ⟨gb239, 3, none⟩) (Kd.R_far (p := ⟨gb239, 2, none⟩) (Kd.R_far (p := ⟨gb239, 1, none⟩) (Kd.R_far (p := ⟨gb239, 0, none⟩) (Kd.R_mono HO_7.out (fun k_ hk => (⟨hk, hk.2⟩ : _ ∧ k_ ≠ gb239))) (fun _ hk => hk.2) (.int .i64 ((rd_T55 l0 x38_4).f0))) (fun _ hk => hk.2) (.int .i64 ((rd_T55 l0 x38_4).f1))) (fun _ hk => hk.2) (.int .i64 ((rd_T55 l0 x38_4).f2))) (fun _ hk => hk.2) (.int .i64 ((rd_T55 l0 x38_4).f3))) (fun _ hk => hk.2) (.int .i64 (wrap64 (Int.tdiv ((rd_T55 l0 x38_4).f0) x3_13)))) (fun _ hk => hk.1.2))); (case aS => exact (below_size (zb1 HB))); (case aL => have := LMc20.out; omega); intro v241 w23 ho hb hg hat; rw [← Ny240.out] at ho; have HO242 := Aside0.mk (ho); replace BK239 := Aside0.mk (blk_grown (g := gb239) (o := .cells #[.int .i64 (wrap64 (Int.tdiv ((rd_T55 l0 x38_4).f0) x3_13)), .int .i64 ((rd_T55 l0 x38_4).f1), .int .i64 ((rd_T55 l0 x38_4).f2), .int .i64 ((rd_T55 l0 x38_4).f3)] 55 (0, 0)) (by (with_reducible repeat (first | refine blk_drewN ?_ _ | refine blk_drew ?_ | refine blk_alloc ?_ _)); refine blk_put (cs := #[.int .i64 ((rd_T55 l0 x38_4).f0), .int .i64 ((rd_T55 l0 x38_4).f1), .int .i64 ((rd_T55 l0 x38_4).f2), .int .i64 ((rd_T55 l0 x38_4).f3)]) ?_ 0 _ rfl; (with_reducible repeat (first | refine blk_drewN ?_ _ | refine blk_drew ?_ | refine blk_alloc ?_ _)); refine blk_put (cs := #[.int .i64 ((rd_T55 l0 x38_4).f0), .int .i64 ((rd_T55 l0 x38_4).f1), .int .i64 ((rd_T55 l0 x38_4).f2), .int .i64 0]) ?_ 3 _ rfl; (with_reducible repeat (first | refine blk_drewN ?_ _ | refine blk_drew ?_ | refine blk_alloc ?_ _)); refine blk_put (cs := #[.int .i64 ((rd_T55 l0 x38_4).f0), .int .i64 ((rd_T55 l0 x38_4).f1), .int .i64 0, .int .i64 0]) ?_ 2 _ rfl; (with_reducible repeat (first | refine blk_drewN ?_ _ | refine blk_drew ?_ | refine blk_alloc ?_ _)); refine blk_put (cs := #[.int .i64 ((rd_T55 l0 x38_4).f0), .int .i64 0, .int .i64 0, .int .i64 0]) ?_ 1 _ rfl; (with_reducible repeat (first | refine blk_drewN ?_ _ | refine blk_drew ?_ | refine blk_alloc ?_ _)); refine blk_put (cs := #[.int .i64 0, .int .i64 0, .int .i64 0, .int .i64 0]) ?_ 0 _ rfl; (with_reducible repeat (first | refine blk_drewN ?_ _ | refine blk_drew ?_ | refine blk_alloc ?_ _)); exact BK239.out) hg (Kd.R_away HO_7.out (fun _ hk => hk.2))); replace HB := Aside0.mk (hb); clear HO_7; clear ho hb hg hat))
               go_roundg k4
               case measure => have := HK1.out; have := HJ8.out; have := HJ13.out; have := HK4.out; omega
               case rel => exact ⟨(y240), (wrap64 (x38_4 + 1)), (by first | rfl | (simp; done) | (simp [*]; done)), H', ⟨by have := HK1.out; have := HJ8.out; have := HJ13.out; have := HK4.out; omega⟩, ⟨by (with_reducible repeat (first | apply Kd.R_alloc | apply Kd.R_drewN | apply Kd.R_drew)); exact Kd.R_mono HO242.out (fun _ hk => trivial)⟩, ⟨(zb1 HB)⟩⟩
              ·
               rw [if_neg c20] at H
               exact absurd H (by simp)
            ·
             rw [if_neg c18] at H
             exact absurd H (by simp)
           ·
            rw [if_neg c17] at H
            exact absurd H (by simp)
          ·
           rw [if_neg c16] at H
           have c16b0 : decide (x38_4 < (l0.length : Int)) = false := decide_eq_false c16
           clear c16
           obtain rfl := Option.some.inj H
           go_wp2
           go_ret
           exact ⟨_, by first | rfl | (simp [errW_none, errW_some] <;> rfl) | (simp [*, errW_none, errW_some] <;> rfl), by (with_reducible repeat (first | apply Kd.R_alloc | apply Kd.R_drewN | apply Kd.R_drew)); exact HO_7.out, (zb0 HB)⟩
end Go.Proofs.Ytfnmppeoleicbaa.PD
