-- By wip/mk/drv.py
import Derived.Test.YtfnmppeoleicbaaQPrimlyPDx0
import Derived.Test.YtfnmppeoleicbaaQPrimlyPDx1
import Derived.Test.YtfnmppeoleicbaaQPrimlyPDx3
namespace Go.Proofs.Ytfnmppeoleicbaa.PD
open Go.RowKit Go.Proofs.YtfnmppeoleicbaaW.PrintWords Go.Proofs.YtfnmppeoleicbaaW.PrintLast Go.Proofs.YtfnmppeoleicbaaW.PrintMore
attribute [local go_sem] max2_int min2_int max_two min_two max_three min_three max_four min_four
set_option linter.unusedVariables false
set_option linter.unusedSimpArgs false
/-! ### spec_txPrimitive: function 62 -/
theorem zrl62 {P : Program} {ops : Array Oper} {rest : List Oper} {o : Oper} {a : Act} {Q : Exit → Act → World → Prop} {W : World} {g : Nat} {cs : Array Value} {t : TypeId} (hb : W.heap[g]? = some (.cells cs t (0, 0))) (hgd : o.guard = none) (hrun : ∀ W' : World, (∀ i, W'.cell? ⟨g, i, none⟩ = cs[i]?) → (execOp a.eval o).run P W' = .ok (.value (.agg cs)) W') (h : wpList P ops Q rest (a.put o.dst (.agg cs)) W) : wpList P ops Q (o :: rest) a W := Kd.event_run hgd (hrun W (fun i => blk_cell hb i)) h
set_option maxHeartbeats 8000000 in
set_option maxRecDepth 100000 in
theorem spec_txPrimitive.calls (k : Nat) (A0 : Option Addr) (c0 : Nat) (l0 : List (S55)) (r : List (S55)) (w : World) (hr0 : Kd.C k55 w A0 l0.length l0) (hc0 : l0.length ≤ c0) (h : spec_txPrimitive.f k l0 = some r) :
  Calls Try.prog 62 #[.slice A0 l0.length c0] w fun e w' => ∃ v0_ : Value, e = .returned (v0_) ∧ Kd.R k55 55 w' w.heap.size (fun _ => True) v0_ r ∧ Below w.heap.size w w' := by
 have hu55 := Try.underlying55
 have HR0 := Aside0.mk hr0
 have HC0 := Aside0.mk hc0
 clear hr0 hc0
 have HB := Aside0.mk (Below.refl w.heap.size w)
 have H : (spec_txPrimitive.l0 k l0 0 l0 (l0.length : Int) 0) = some r := h
 clear h
 have H' := Aside0.mk H
 clear H
 go_enter Try.func62, Try.ntmps62
 go_wp2
 go_loopg [3, 11] k (fun kq v3 v11 w' => ∃ (x3_1 : Int) (x11_1 : Int), v3 = .int .i64 x3_1 ∧ v11 = .int .i64 x11_1 ∧ Aside0 (spec_txPrimitive.l0 kq l0 x3_1 l0 (l0.length : Int) x11_1 = some r) ∧ Aside0 (kq ≤ k) ∧ Aside0 (Below w.heap.size w w'))
 case atStart => exact ⟨(0), (0), (by first | rfl | (simp; done) | (simp [*]; done)), (by first | rfl | (simp; done) | (simp [*]; done)), H', ⟨Nat.le_refl _⟩, ⟨(zb0 HB)⟩⟩
 case round =>
  clear H'
  obtain ⟨x3_1, x11_1, rfl, rfl, HA, HK1, HB⟩ := hrel
  cases gk with
  | zero => exact absurd HA.out (by simp [spec_txPrimitive.l0])
  | succ k1 =>
   have H := HA.out
   clear HA
   simp only [spec_txPrimitive.l0] at H
   by_cases c2 : x11_1 < (l0.length : Int)
   ·
    rw [if_pos c2] at H
    have c2b0 : decide (x11_1 < (l0.length : Int)) = true := decide_eq_true c2
    clear c2
    by_cases c3 : 0 ≤ x11_1
    ·
     rw [if_pos c3] at H
     have c3b0 : decide (0 ≤ x11_1) = true := decide_eq_true c3
     clear c3
     by_cases c4 : x11_1 < (l0.length : Int)
     ·
      rw [if_pos c4] at H
      have c4b0 : decide (x11_1 < (l0.length : Int)) = true := decide_eq_true c4
      clear c4
      replace H := Option.bind_eq_some_iff.mp H
      obtain ⟨t219, A50, H⟩ := H
      replace H : ((spec_txCommon.f k1 t219 x3_1).bind fun t220 => (spec_txPrimitive.l0 k1 l0 t220 l0 (l0.length : Int) (wrap64 (x11_1 + 1)))) = some r := H
      have A5 := Aside0.mk A50
      clear A50
      replace H := Option.bind_eq_some_iff.mp H
      obtain ⟨t220, A60, H⟩ := H
      replace H : (spec_txPrimitive.l0 k1 l0 t220 l0 (l0.length : Int) (wrap64 (x11_1 + 1))) = some r := H
      have A6 := Aside0.mk A60
      clear A60
      have H' := Aside0.mk H
      clear H
      have p217 : 0 ≤ (x11_1 : Int) := of_decide_eq_true (by first | (with_reducible assumption) | assumption)
      have q217 : x11_1 < (l0.length : Int) := of_decide_eq_true (by first | (with_reducible assumption) | assumption)
      obtain ⟨ad217, e217, hx217_0, hx217_1, hx217_2, hx217_3⟩ := at_T55 HR0.out x11_1 p217 q217
      cases e217
      replace hx217_0 := (HB.out.cell (World.block_lt_of_cell? w _ hx217_0)).trans hx217_0
      replace hx217_1 := (HB.out.cell (World.block_lt_of_cell? w _ hx217_1)).trans hx217_1
      replace hx217_2 := (HB.out.cell (World.block_lt_of_cell? w _ hx217_2)).trans hx217_2
      replace hx217_3 := (HB.out.cell (World.block_lt_of_cell? w _ hx217_3)).trans hx217_3
      replace p217 := eq_true p217
      replace q217 := eq_true q217
      go_wp2_with (first | ((with_reducible refine gate_dst (N := 5) rfl ?_); refine zbe (N := 5) (cs := #[.int .i64 0, .int .i64 0, .int .i64 0, .int .i64 0]) (t := 55) ?_; intro gb218 hg w7 hbox hb; have BK218 := Aside0.mk (hbox); have GW218 := Aside0.mk (zge (zb0 HB) hg); have GE218 := GW218; replace HB := Aside0.mk (below_step (zb0 HB) hb); clear hb hbox hg; have hcz8_0 : w7.cell? ⟨gb218, 0, none⟩ = some (.int .i64 0) := zc BK218 0; have hcz8_1 : w7.cell? ⟨gb218, 1, none⟩ = some (.int .i64 0) := zc BK218 1; have hcz8_2 : w7.cell? ⟨gb218, 2, none⟩ = some (.int .i64 0) := zc BK218 2; have hcz8_3 : w7.cell? ⟨gb218, 3, none⟩ = some (.int .i64 0) := zc BK218 3; have hfz8_0 := blk_frozen BK218.out 0; have hfz8_1 := blk_frozen BK218.out 1; have hfz8_2 := blk_frozen BK218.out 2; have hfz8_3 := blk_frozen BK218.out 3) | ((with_reducible refine gate_callee (f := 91) rfl ?_); refine goesL_ (some 17) rfl rfl Try.func91 (by kernel_rfl) rfl #[.int .i64 ((rd_T55 l0 x11_1).f0)] rfl zq6 ?_; (with_reducible refine (spec_l1Abs.calls ((rd_T55 l0 x11_1).f0) t219 _ A5.out).mono ?_); rintro e w' ⟨rfl, ⟨nd, rfl⟩⟩; refine ⟨_, rfl, ?_⟩) | ((with_reducible refine gate_callee (f := 90) rfl ?_); refine goesL_ (some 19) rfl rfl Try.func90 (by kernel_rfl) rfl #[.int .i64 t219, .int .i64 x3_1] rfl zq6 ?_; (with_reducible refine (spec_txCommon.calls k1 t219 x3_1 t220 _ A6.out).mono ?_); rintro e w' ⟨rfl, ⟨nd, rfl⟩⟩; refine ⟨_, rfl, ?_⟩))
      go_roundg k1
      case measure => have := HK1.out; omega
      case rel => exact ⟨(t220), (wrap64 (x11_1 + 1)), (by first | rfl | (simp; done) | (simp [*]; done)), (by first | rfl | (simp; done) | (simp [*]; done)), H', ⟨by have := HK1.out; omega⟩, ⟨(zb1 HB)⟩⟩
     ·
      rw [if_neg c4] at H
      exact absurd H (by simp)
    ·
     rw [if_neg c3] at H
     exact absurd H (by simp)
   ·
    rw [if_neg c2] at H
    have c2b0 : decide (x11_1 < (l0.length : Int)) = false := decide_eq_false c2
    clear c2
    have H' := Aside0.mk H
    clear H
    go_wp2
    go_loopg [6, 23] k1 (fun kq v6 v23 w' => ∃ (x6_2 : List (S55)) (x23_2 : Int), v23 = .int .i64 x23_2 ∧ Aside0 (spec_txPrimitive.l1 kq l0 x3_1 x6_2 l0 (l0.length : Int) x23_2 = some r) ∧ Aside0 (kq ≤ k1) ∧ Aside0 (Kd.R k55 55 w' w.heap.size (fun _ => True) v6 x6_2) ∧ Aside0 (Below w.heap.size w w'))
    case atStart => exact ⟨(([] : List (S55))), (0), (by first | rfl | (simp; done) | (simp [*]; done)), H', ⟨Nat.le_refl _⟩, ⟨by first | exact Kd.R_nil _ _ _ _ _ | exact Kd.N_nil _ _ _ _ _ | exact Kd.V_nil _ _ _ _ _ | exact Kd.Q_nil _ _ _ _ _ | exact Kd.S_nil _ _ _ _ _⟩, ⟨(zb0 HB)⟩⟩
    case round =>
     clear H'
     try clear c2
     try clear c2b0
     try clear p2
     try clear q2
     try clear hx2
     try clear c3
     try clear c3b0
     try clear c4
     try clear c4b0
     try clear c6
     try clear p6
     try clear hcz8_0
     try clear hcz8_1
     try clear hcz8_2
     try clear hcz8_3
     try clear hfz8_0
     try clear hfz8_1
     try clear hfz8_2
     try clear hfz8_3
     try clear hx217_0
     try clear hx217_1
     try clear hx217_2
     try clear hx217_3
     try clear p217
     try clear q217
     obtain ⟨x6_2, x23_2, rfl, HA, HK2, HO_6, HB⟩ := hrel
     cases gk with
     | zero => exact absurd HA.out (by simp [spec_txPrimitive.l1])
     | succ k2 =>
      have H := HA.out
      clear HA
      simp only [spec_txPrimitive.l1] at H
      by_cases c9 : x23_2 < (l0.length : Int)
      ·
       rw [if_pos c9] at H
       have c9b0 : decide (x23_2 < (l0.length : Int)) = true := decide_eq_true c9
       clear c9
       by_cases c10 : 0 ≤ x23_2
       ·
        rw [if_pos c10] at H
        have c10b0 : decide (0 ≤ x23_2) = true := decide_eq_true c10
        clear c10
        by_cases c11 : x23_2 < (l0.length : Int)
        ·
         rw [if_pos c11] at H
         have c11b0 : decide (x23_2 < (l0.length : Int)) = true := decide_eq_true c11
         clear c11
         by_cases c12 : x3_1 = 0
         ·
          rw [if_pos c12] at H
          exact absurd H (by simp)
         ·
          rw [if_neg c12] at H
          have c12b0 : (x3_1 == 0) = false := beq_eq_false_iff_ne.mpr c12
          have c12b1 : (x3_1 != 0) = true := bne_iff_ne.mpr c12
          obtain ⟨ji13, hji13⟩ : ∃ j_ : Int, (wrap64 ((l0.length : Int) - 1)) = j_ := ⟨_, rfl⟩
          replace H : (if 0 ≤ (ji13) then (if (ji13) < (l0.length : Int) then (if ((rd_T55 l0 (ji13)).f0) < 0 then (if x6_2.length < 4398046511104 then (spec_txPrimitive.l1 k2 l0 x3_1 (x6_2 ++ [(⟨wrap64 (-(wrap64 (Int.tdiv ((rd_T55 l0 x23_2).f0) x3_1))), (rd_T55 l0 x23_2).f1, (rd_T55 l0 x23_2).f2, (rd_T55 l0 x23_2).f3⟩ : S55)]) l0 (l0.length : Int) (wrap64 (x23_2 + 1))) else (none)) else (if x6_2.length < 4398046511104 then (spec_txPrimitive.l1 k2 l0 x3_1 (x6_2 ++ [(⟨wrap64 (Int.tdiv ((rd_T55 l0 x23_2).f0) x3_1), (rd_T55 l0 x23_2).f1, (rd_T55 l0 x23_2).f2, (rd_T55 l0 x23_2).f3⟩ : S55)]) l0 (l0.length : Int) (wrap64 (x23_2 + 1))) else (none))) else (none)) else (none)) = some r := by first | (rw [hji13] at H; exact H) | (simp only [hji13] at H ⊢; exact H)
          have hji13w : (IntKind.i64.wrap ((l0.length : Int) - 1)) = ji13 := (i64_w _).trans hji13
          by_cases c14 : 0 ≤ (ji13)
          ·
           rw [if_pos c14] at H
           have c14b0 : decide (0 ≤ (ji13)) = true := decide_eq_true c14
           clear c14
           by_cases c15 : (ji13) < (l0.length : Int)
           ·
            rw [if_pos c15] at H
            have c15b0 : decide ((ji13) < (l0.length : Int)) = true := decide_eq_true c15
            clear c15
            by_cases c16 : ((rd_T55 l0 (ji13)).f0) < 0
            ·
             rw [if_pos c16] at H
             have c16b0 : decide (((rd_T55 l0 (ji13)).f0) < 0) = true := decide_eq_true c16
             clear c16
             by_cases c17 : x6_2.length < 4398046511104
             ·
              rw [if_pos c17] at H
              have LMc17 := Aside0.mk c17
              clear c17
              obtain ⟨y224, hy224⟩ : ∃ y_ : List (S55), y_ = (x6_2 ++ [(⟨wrap64 (-(wrap64 (Int.tdiv ((rd_T55 l0 x23_2).f0) x3_1))), (rd_T55 l0 x23_2).f1, (rd_T55 l0 x23_2).f2, (rd_T55 l0 x23_2).f3⟩ : S55)]) := ⟨_, rfl⟩
              replace H : (spec_txPrimitive.l1 k2 l0 x3_1 y224 l0 (l0.length : Int) (wrap64 (x23_2 + 1))) = some r := by first | (rw [hy224]; with_reducible exact H) | (have H2_ := (Option.bind_some _ _).symm.trans H; rw [hy224]; with_reducible exact H2_) | (have H2_ := (Option.bind_some _ _).symm.trans H; with_reducible exact H2_) | with_reducible exact H | (rw [hy224]; exact H) | exact H
              have Ny224 := Aside0.mk hy224
              clear hy224
              have H' := Aside0.mk H
              clear H
              have p221 : 0 ≤ (x23_2 : Int) := of_decide_eq_true (by first | (with_reducible assumption) | assumption)
              have q221 : x23_2 < (l0.length : Int) := of_decide_eq_true (by first | (with_reducible assumption) | assumption)
              obtain ⟨ad221, e221, hx221_0, hx221_1, hx221_2, hx221_3⟩ := at_T55 HR0.out x23_2 p221 q221
              cases e221
              replace hx221_0 := (HB.out.cell (World.block_lt_of_cell? w _ hx221_0)).trans hx221_0
              replace hx221_1 := (HB.out.cell (World.block_lt_of_cell? w _ hx221_1)).trans hx221_1
              replace hx221_2 := (HB.out.cell (World.block_lt_of_cell? w _ hx221_2)).trans hx221_2
              replace hx221_3 := (HB.out.cell (World.block_lt_of_cell? w _ hx221_3)).trans hx221_3
              replace p221 := eq_true p221
              replace q221 := eq_true q221
              go_wp2_with (first | ((with_reducible refine gate_dst (N := 8) rfl ?_); refine zbe (N := 8) (cs := #[.int .i64 0, .int .i64 0, .int .i64 0, .int .i64 0]) (t := 55) ?_; intro gb222 hg w18 hbox hb; have BK222 := Aside0.mk (hbox); have GW222 := Aside0.mk (zge (zb0 HB) hg); have GE222 := GW222; replace HO_6 := Aside0.mk (Kd.R_below (Kd.R_elderB (zq3 HO_6) gb222 (Nat.le_of_eq hg.symm)) hb); replace HB := Aside0.mk (below_step (zb0 HB) hb); clear hb hbox hg; have hcz19_0 : w18.cell? ⟨gb222, 0, none⟩ = some (.int .i64 0) := zc BK222 0; have hcz19_1 : w18.cell? ⟨gb222, 1, none⟩ = some (.int .i64 0) := zc BK222 1; have hcz19_2 : w18.cell? ⟨gb222, 2, none⟩ = some (.int .i64 0) := zc BK222 2; have hcz19_3 : w18.cell? ⟨gb222, 3, none⟩ = some (.int .i64 0) := zc BK222 3; have hfz19_0 := blk_frozen BK222.out 0; have hfz19_1 := blk_frozen BK222.out 1; have hfz19_2 := blk_frozen BK222.out 2; have hfz19_3 := blk_frozen BK222.out 3; have p223 : 0 ≤ ((ji13) : Int) := of_decide_eq_true (by first | (with_reducible assumption) | assumption); have q223 : (ji13) < (l0.length : Int) := of_decide_eq_true (by first | (with_reducible assumption) | assumption); obtain ⟨ad223, e223, hx223_0, hx223_1, hx223_2, hx223_3⟩ := at_T55 HR0.out (ji13) p223 q223; obtain rfl : ad221 = ad223 := (by injection e223); have hn223_0 : ad221.block ≠ gb222 := Nat.ne_of_lt (Nat.lt_of_lt_of_le (by have := World.block_lt_of_cell? _ _ hx223_0; first | rwa [add_block] at this | exact this) GW222.out); have hn223_1 : ad221.block ≠ gb222 := Nat.ne_of_lt (Nat.lt_of_lt_of_le (by have := World.block_lt_of_cell? _ _ hx223_0; first | rwa [add_block] at this | exact this) GW222.out); have hn223_2 : ad221.block ≠ gb222 := Nat.ne_of_lt (Nat.lt_of_lt_of_le (by have := World.block_lt_of_cell? _ _ hx223_0; first | rwa [add_block] at this | exact this) GW222.out); have hn223_3 : ad221.block ≠ gb222 := Nat.ne_of_lt (Nat.lt_of_lt_of_le (by have := World.block_lt_of_cell? _ _ hx223_0; first | rwa [add_block] at this | exact this) GW222.out); have hn223_4 : ad221.block ≠ gb222 := Nat.ne_of_lt (Nat.lt_of_lt_of_le (by have := World.block_lt_of_cell? _ _ hx223_0; first | rwa [add_block] at this | exact this) GW222.out); replace hx223_0 := (HB.out.cell (World.block_lt_of_cell? w _ hx223_0)).trans hx223_0; replace hx223_1 := (HB.out.cell (World.block_lt_of_cell? w _ hx223_1)).trans hx223_1; replace hx223_2 := (HB.out.cell (World.block_lt_of_cell? w _ hx223_2)).trans hx223_2; replace hx223_3 := (HB.out.cell (World.block_lt_of_cell? w _ hx223_3)).trans hx223_3; replace hx223_0 := (cell_far (p := ⟨gb222, 0, none⟩) (by first | (rw [add_block]; exact hn223_0) | (show (Addr.add _ _).block ≠ _; rw [add_block]; exact hn223_0) | exact hn223_0) (.int .i64 ((rd_T55 l0 x23_2).f0))).trans hx223_0; replace hx223_1 := (cell_far (p := ⟨gb222, 0, none⟩) (by first | (rw [add_block]; exact hn223_0) | (show (Addr.add _ _).block ≠ _; rw [add_block]; exact hn223_0) | exact hn223_0) (.int .i64 ((rd_T55 l0 x23_2).f0))).trans hx223_1; replace hx223_2 := (cell_far (p := ⟨gb222, 0, none⟩) (by first | (rw [add_block]; exact hn223_0) | (show (Addr.add _ _).block ≠ _; rw [add_block]; exact hn223_0) | exact hn223_0) (.int .i64 ((rd_T55 l0 x23_2).f0))).trans hx223_2; replace hx223_3 := (cell_far (p := ⟨gb222, 0, none⟩) (by first | (rw [add_block]; exact hn223_0) | (show (Addr.add _ _).block ≠ _; rw [add_block]; exact hn223_0) | exact hn223_0) (.int .i64 ((rd_T55 l0 x23_2).f0))).trans hx223_3; replace hx223_0 := (cell_far (p := ⟨gb222, 1, none⟩) (by first | (rw [add_block]; exact hn223_1) | (show (Addr.add _ _).block ≠ _; rw [add_block]; exact hn223_1) | exact hn223_1) (.int .i64 ((rd_T55 l0 x23_2).f1))).trans hx223_0; replace hx223_1 := (cell_far (p := ⟨gb222, 1, none⟩) (by first | (rw [add_block]; exact hn223_1) | (show (Addr.add _ _).block ≠ _; rw [add_block]; exact hn223_1) | exact hn223_1) (.int .i64 ((rd_T55 l0 x23_2).f1))).trans hx223_1; replace hx223_2 := (cell_far (p := ⟨gb222, 1, none⟩) (by first | (rw [add_block]; exact hn223_1) | (show (Addr.add _ _).block ≠ _; rw [add_block]; exact hn223_1) | exact hn223_1) (.int .i64 ((rd_T55 l0 x23_2).f1))).trans hx223_2; replace hx223_3 := (cell_far (p := ⟨gb222, 1, none⟩) (by first | (rw [add_block]; exact hn223_1) | (show (Addr.add _ _).block ≠ _; rw [add_block]; exact hn223_1) | exact hn223_1) (.int .i64 ((rd_T55 l0 x23_2).f1))).trans hx223_3; replace hx223_0 := (cell_far (p := ⟨gb222, 2, none⟩) (by first | (rw [add_block]; exact hn223_2) | (show (Addr.add _ _).block ≠ _; rw [add_block]; exact hn223_2) | exact hn223_2) (.int .i64 ((rd_T55 l0 x23_2).f2))).trans hx223_0; replace hx223_1 := (cell_far (p := ⟨gb222, 2, none⟩) (by first | (rw [add_block]; exact hn223_2) | (show (Addr.add _ _).block ≠ _; rw [add_block]; exact hn223_2) | exact hn223_2) (.int .i64 ((rd_T55 l0 x23_2).f2))).trans hx223_1; replace hx223_2 := (cell_far (p := ⟨gb222, 2, none⟩) (by first | (rw [add_block]; exact hn223_2) | (show (Addr.add _ _).block ≠ _; rw [add_block]; exact hn223_2) | exact hn223_2) (.int .i64 ((rd_T55 l0 x23_2).f2))).trans hx223_2; replace hx223_3 := (cell_far (p := ⟨gb222, 2, none⟩) (by first | (rw [add_block]; exact hn223_2) | (show (Addr.add _ _).block ≠ _; rw [add_block]; exact hn223_2) | exact hn223_2) (.int .i64 ((rd_T55 l0 x23_2).f2))).trans hx223_3; replace hx223_0 := (cell_far (p := ⟨gb222, 3, none⟩) (by first | (rw [add_block]; exact hn223_3) | (show (Addr.add _ _).block ≠ _; rw [add_block]; exact hn223_3) | exact hn223_3) (.int .i64 ((rd_T55 l0 x23_2).f3))).trans hx223_0; replace hx223_1 := (cell_far (p := ⟨gb222, 3, none⟩) (by first | (rw [add_block]; exact hn223_3) | (show (Addr.add _ _).block ≠ _; rw [add_block]; exact hn223_3) | exact hn223_3) (.int .i64 ((rd_T55 l0 x23_2).f3))).trans hx223_1; replace hx223_2 := (cell_far (p := ⟨gb222, 3, none⟩) (by first | (rw [add_block]; exact hn223_3) | (show (Addr.add _ _).block ≠ _; rw [add_block]; exact hn223_3) | exact hn223_3) (.int .i64 ((rd_T55 l0 x23_2).f3))).trans hx223_2; replace hx223_3 := (cell_far (p := ⟨gb222, 3, none⟩) (by first | (rw [add_block]; exact hn223_3) | (show (Addr.add _ _).block ≠ _; rw [add_block]; exact hn223_3) | exact hn223_3) (.int .i64 ((rd_T55 l0 x23_2).f3))).trans hx223_3; replace hx223_0 := (cell_far (p := ⟨gb222, 0, none⟩) (by first | (rw [add_block]; exact hn223_4) | (show (Addr.add _ _).block ≠ _; rw [add_block]; exact hn223_4) | exact hn223_4) (.int .i64 (wrap64 (Int.tdiv ((rd_T55 l0 x23_2).f0) x3_1)))).trans hx223_0; replace hx223_1 := (cell_far (p := ⟨gb222, 0, none⟩) (by first | (rw [add_block]; exact hn223_4) | (show (Addr.add _ _).block ≠ _; rw [add_block]; exact hn223_4) | exact hn223_4) (.int .i64 (wrap64 (Int.tdiv ((rd_T55 l0 x23_2).f0) x3_1)))).trans hx223_1; replace hx223_2 := (cell_far (p := ⟨gb222, 0, none⟩) (by first | (rw [add_block]; exact hn223_4) | (show (Addr.add _ _).block ≠ _; rw [add_block]; exact hn223_4) | exact hn223_4) (.int .i64 (wrap64 (Int.tdiv ((rd_T55 l0 x23_2).f0) x3_1)))).trans hx223_2; replace hx223_3 := (cell_far (p := ⟨gb222, 0, none⟩) (by first | (rw [add_block]; exact hn223_4) | (show (Addr.add _ _).block ≠ _; rw [add_block]; exact hn223_4) | exact hn223_4) (.int .i64 (wrap64 (Int.tdiv ((rd_T55 l0 x23_2).f0) x3_1)))).trans hx223_3; clear hn223_0; clear hn223_1; clear hn223_2; clear hn223_3; clear hn223_4; replace p223 := eq_true p223; replace q223 := eq_true q223) | ((with_reducible refine gate_dst (N := 45) rfl ?_); refine zrl62 (g := gb222) (t := 55) (cs := #[.int .i64 (wrap64 (-(wrap64 (Int.tdiv ((rd_T55 l0 x23_2).f0) x3_1)))), .int .i64 ((rd_T55 l0 x23_2).f1), .int .i64 ((rd_T55 l0 x23_2).f2), .int .i64 ((rd_T55 l0 x23_2).f3)]) (by (with_reducible repeat (first | refine blk_drewN ?_ _ | refine blk_drew ?_ | refine blk_alloc ?_ _)); refine blk_put (cs := #[.int .i64 (wrap64 (Int.tdiv ((rd_T55 l0 x23_2).f0) x3_1)), .int .i64 ((rd_T55 l0 x23_2).f1), .int .i64 ((rd_T55 l0 x23_2).f2), .int .i64 ((rd_T55 l0 x23_2).f3)]) ?_ 0 _ rfl; (with_reducible repeat (first | refine blk_drewN ?_ _ | refine blk_drew ?_ | refine blk_alloc ?_ _)); refine blk_put (cs := #[.int .i64 ((rd_T55 l0 x23_2).f0), .int .i64 ((rd_T55 l0 x23_2).f1), .int .i64 ((rd_T55 l0 x23_2).f2), .int .i64 ((rd_T55 l0 x23_2).f3)]) ?_ 0 _ rfl; (with_reducible repeat (first | refine blk_drewN ?_ _ | refine blk_drew ?_ | refine blk_alloc ?_ _)); refine blk_put (cs := #[.int .i64 ((rd_T55 l0 x23_2).f0), .int .i64 ((rd_T55 l0 x23_2).f1), .int .i64 ((rd_T55 l0 x23_2).f2), .int .i64 0]) ?_ 3 _ rfl; (with_reducible repeat (first | refine blk_drewN ?_ _ | refine blk_drew ?_ | refine blk_alloc ?_ _)); refine blk_put (cs := #[.int .i64 ((rd_T55 l0 x23_2).f0), .int .i64 ((rd_T55 l0 x23_2).f1), .int .i64 0, .int .i64 0]) ?_ 2 _ rfl; (with_reducible repeat (first | refine blk_drewN ?_ _ | refine blk_drew ?_ | refine blk_alloc ?_ _)); refine blk_put (cs := #[.int .i64 ((rd_T55 l0 x23_2).f0), .int .i64 0, .int .i64 0, .int .i64 0]) ?_ 1 _ rfl; (with_reducible repeat (first | refine blk_drewN ?_ _ | refine blk_drew ?_ | refine blk_alloc ?_ _)); refine blk_put (cs := #[.int .i64 0, .int .i64 0, .int .i64 0, .int .i64 0]) ?_ 0 _ rfl; (with_reducible repeat (first | refine blk_drewN ?_ _ | refine blk_drew ?_ | refine blk_alloc ?_ _)); exact BK222.out) rfl (by intro W' hc; have h0 := (hc 0).trans (show _ = some _ from rfl); have h1 := (hc 1).trans (show _ = some _ from rfl); have h2 := (hc 2).trans (show _ = some _ from rfl); have h3 := (hc 3).trans (show _ = some _ from rfl); clear hc; go_simp; try rfl) ?_) | ((with_reducible refine gate_builtin (b := .append) (xs := #[.tmp 44, .tmp 46]) rfl ?_); at_builtin; refine Kd.R_append k55 (w0 := w) w.heap.size rfl (.tmp 44) (.tmp 46) 25 55 (.agg #[(.int .i64 0), (.int .i64 0), (.int .i64 0), (.int .i64 0)]) 32 rfl Try.underlying25 info55 rfl (by decide) (by omega) u6 x6_2 (⟨wrap64 (-(wrap64 (Int.tdiv ((rd_T55 l0 x23_2).f0) x3_1))), (rd_T55 l0 x23_2).f1, (rd_T55 l0 x23_2).f2, (rd_T55 l0 x23_2).f3⟩ : S55) [.int .i64 (wrap64 (-(wrap64 (Int.tdiv ((rd_T55 l0 x23_2).f0) x3_1)))), .int .i64 ((rd_T55 l0 x23_2).f1), .int .i64 ((rd_T55 l0 x23_2).f2), .int .i64 ((rd_T55 l0 x23_2).f3)] (fun k_ => k_ ≠ gb222) (fun _ => False) rfl (by first | (go_simp; done) | (go_simp; rfl)) ?aP (fun _ hk => hk.elim) ?aF ?aO ?aB ?aS ?aL ?_; (case aP => exact k55_mkM _ _ _ (⟨wrap64 (-(wrap64 (Int.tdiv ((rd_T55 l0 x23_2).f0) x3_1))), (rd_T55 l0 x23_2).f1, (rd_T55 l0 x23_2).f2, (rd_T55 l0 x23_2).f3⟩ : S55)); (case aB => exact (zb1 HB)); (case aF => exact (fun k_ hk => Kd.freshB (g := gb222) (o := .cells #[.int .i64 (wrap64 (-(wrap64 (Int.tdiv ((rd_T55 l0 x23_2).f0) x3_1)))), .int .i64 ((rd_T55 l0 x23_2).f1), .int .i64 ((rd_T55 l0 x23_2).f2), .int .i64 ((rd_T55 l0 x23_2).f3)] 55 (0, 0)) (by (with_reducible repeat (first | refine blk_drewN ?_ _ | refine blk_drew ?_ | refine blk_alloc ?_ _)); refine blk_put (cs := #[.int .i64 (wrap64 (Int.tdiv ((rd_T55 l0 x23_2).f0) x3_1)), .int .i64 ((rd_T55 l0 x23_2).f1), .int .i64 ((rd_T55 l0 x23_2).f2), .int .i64 ((rd_T55 l0 x23_2).f3)]) ?_ 0 _ rfl; (with_reducible repeat (first | refine blk_drewN ?_ _ | refine blk_drew ?_ | refine blk_alloc ?_ _)); refine blk_put (cs := #[.int .i64 ((rd_T55 l0 x23_2).f0), .int .i64 ((rd_T55 l0 x23_2).f1), .int .i64 ((rd_T55 l0 x23_2).f2), .int .i64 ((rd_T55 l0 x23_2).f3)]) ?_ 0 _ rfl; (with_reducible repeat (first | refine blk_drewN ?_ _ | refine blk_drew ?_ | refine blk_alloc ?_ _)); refine blk_put (cs := #[.int .i64 ((rd_T55 l0 x23_2).f0), .int .i64 ((rd_T55 l0 x23_2).f1), .int .i64 ((rd_T55 l0 x23_2).f2), .int .i64 0]) ?_ 3 _ rfl; (with_reducible repeat (first | refine blk_drewN ?_ _ | refine blk_drew ?_ | refine blk_alloc ?_ _)); refine blk_put (cs := #[.int .i64 ((rd_T55 l0 x23_2).f0), .int .i64 ((rd_T55 l0 x23_2).f1), .int .i64 0, .int .i64 0]) ?_ 2 _ rfl; (with_reducible repeat (first | refine blk_drewN ?_ _ | refine blk_drew ?_ | refine blk_alloc ?_ _)); refine blk_put (cs := #[.int .i64 ((rd_T55 l0 x23_2).f0), .int .i64 0, .int .i64 0, .int .i64 0]) ?_ 1 _ rfl; (with_reducible repeat (first | refine blk_drewN ?_ _ | refine blk_drew ?_ | refine blk_alloc ?_ _)); refine blk_put (cs := #[.int .i64 0, .int .i64 0, .int .i64 0, .int .i64 0]) ?_ 0 _ rfl; (with_reducible repeat (first | refine blk_drewN ?_ _ | refine blk_drew ?_ | refine blk_alloc ?_ _)); exact BK222.out) k_ hk)); (case aO => exact (by (with_reducible repeat (first | apply Kd.R_alloc | apply Kd.R_drewN | apply Kd.R_drew)); exact Kd.R_mono (Kd.R_far (p := ⟨gb222, 0, none⟩) (Kd.R_far (p := ⟨gb222, 0, none⟩) (Kd.R_far (p := ⟨gb222, 3, none⟩) (Kd.R_far (p := ⟨gb222, 2, none⟩) (Kd.R_far (p := ⟨gb222, 1, none⟩) (Kd.R_far (p := ⟨gb222, 0, none⟩) (Kd.R_mono HO_6.out (fun k_ hk => (⟨hk, hk.2⟩ : _ ∧ k_ ≠ gb222))) (fun _ hk => hk.2) (.int .i64 ((rd_T55 l0 x23_2).f0))) (fun _ hk => hk.2) (.int .i64 ((rd_T55 l0 x23_2).f1))) (fun _ hk => hk.2) (.int .i64 ((rd_T55 l0 x23_2).f2))) (fun _ hk => hk.2) (.int .i64 ((rd_T55 l0 x23_2).f3))) (fun _ hk => hk.2) (.int .i64 (wrap64 (Int.tdiv ((rd_T55 l0 x23_2).f0) x3_1)))) (fun _ hk => hk.2) (.int .i64 (wrap64 (-(wrap64 (Int.tdiv ((rd_T55 l0 x23_2).f0) x3_1)))))) (fun _ hk => hk.1.2))); (case aS => exact (below_size (zb1 HB))); (case aL => have := LMc17.out; omega); intro v225 w20 ho hb hg hat; rw [← Ny224.out] at ho; have HO226 := Aside0.mk (ho); replace BK222 := Aside0.mk (blk_grown (g := gb222) (o := .cells #[.int .i64 (wrap64 (-(wrap64 (Int.tdiv ((rd_T55 l0 x23_2).f0) x3_1)))), .int .i64 ((rd_T55 l0 x23_2).f1), .int .i64 ((rd_T55 l0 x23_2).f2), .int .i64 ((rd_T55 l0 x23_2).f3)] 55 (0, 0)) (by (with_reducible repeat (first | refine blk_drewN ?_ _ | refine blk_drew ?_ | refine blk_alloc ?_ _)); refine blk_put (cs := #[.int .i64 (wrap64 (Int.tdiv ((rd_T55 l0 x23_2).f0) x3_1)), .int .i64 ((rd_T55 l0 x23_2).f1), .int .i64 ((rd_T55 l0 x23_2).f2), .int .i64 ((rd_T55 l0 x23_2).f3)]) ?_ 0 _ rfl; (with_reducible repeat (first | refine blk_drewN ?_ _ | refine blk_drew ?_ | refine blk_alloc ?_ _)); refine blk_put (cs := #[.int .i64 ((rd_T55 l0 x23_2).f0), .int .i64 ((rd_T55 l0 x23_2).f1), .int .i64 ((rd_T55 l0 x23_2).f2), .int .i64 ((rd_T55 l0 x23_2).f3)]) ?_ 0 _ rfl; (with_reducible repeat (first | refine blk_drewN ?_ _ | refine blk_drew ?_ | refine blk_alloc ?_ _)); refine blk_put (cs := #[.int .i64 ((rd_T55 l0 x23_2).f0), .int .i64 ((rd_T55 l0 x23_2).f1), .int .i64 ((rd_T55 l0 x23_2).f2), .int .i64 0]) ?_ 3 _ rfl; (with_reducible repeat (first | refine blk_drewN ?_ _ | refine blk_drew ?_ | refine blk_alloc ?_ _)); refine blk_put (cs := #[.int .i64 ((rd_T55 l0 x23_2).f0), .int .i64 ((rd_T55 l0 x23_2).f1), .int .i64 0, .int .i64 0]) ?_ 2 _ rfl; (with_reducible repeat (first | refine blk_drewN ?_ _ | refine blk_drew ?_ | refine blk_alloc ?_ _)); refine blk_put (cs := #[.int .i64 ((rd_T55 l0 x23_2).f0), .int .i64 0, .int .i64 0, .int .i64 0]) ?_ 1 _ rfl; (with_reducible repeat (first | refine blk_drewN ?_ _ | refine blk_drew ?_ | refine blk_alloc ?_ _)); refine blk_put (cs := #[.int .i64 0, .int .i64 0, .int .i64 0, .int .i64 0]) ?_ 0 _ rfl; (with_reducible repeat (first | refine blk_drewN ?_ _ | refine blk_drew ?_ | refine blk_alloc ?_ _)); exact BK222.out) hg (Kd.R_away HO_6.out (fun _ hk => hk.2))); replace HB := Aside0.mk (hb); clear HO_6; clear ho hb hg hat))
              go_roundg k2
              case measure => have := HK1.out; have := HK2.out; omega
              case rel => exact ⟨(y224), (wrap64 (x23_2 + 1)), (by first | rfl | (simp; done) | (simp [*]; done)), H', ⟨by have := HK1.out; have := HK2.out; omega⟩, ⟨by (with_reducible repeat (first | apply Kd.R_alloc | apply Kd.R_drewN | apply Kd.R_drew)); exact Kd.R_mono HO226.out (fun _ hk => trivial)⟩, ⟨(zb1 HB)⟩⟩
             ·
              rw [if_neg c17] at H
              exact absurd H (by simp)
            ·
             rw [if_neg c16] at H
             have c16b0 : decide (((rd_T55 l0 (ji13)).f0) < 0) = false := decide_eq_false c16
             clear c16
             by_cases c21 : x6_2.length < 4398046511104
             ·
              rw [if_pos c21] at H
              have LMc21 := Aside0.mk c21
              clear c21
              obtain ⟨y227, hy227⟩ : ∃ y_ : List (S55), y_ = (x6_2 ++ [(⟨wrap64 (Int.tdiv ((rd_T55 l0 x23_2).f0) x3_1), (rd_T55 l0 x23_2).f1, (rd_T55 l0 x23_2).f2, (rd_T55 l0 x23_2).f3⟩ : S55)]) := ⟨_, rfl⟩
              replace H : (spec_txPrimitive.l1 k2 l0 x3_1 y227 l0 (l0.length : Int) (wrap64 (x23_2 + 1))) = some r := by first | (rw [hy227]; with_reducible exact H) | (have H2_ := (Option.bind_some _ _).symm.trans H; rw [hy227]; with_reducible exact H2_) | (have H2_ := (Option.bind_some _ _).symm.trans H; with_reducible exact H2_) | with_reducible exact H | (rw [hy227]; exact H) | exact H
              have Ny227 := Aside0.mk hy227
              clear hy227
              have H' := Aside0.mk H
              clear H
              have p221 : 0 ≤ (x23_2 : Int) := of_decide_eq_true (by first | (with_reducible assumption) | assumption)
              have q221 : x23_2 < (l0.length : Int) := of_decide_eq_true (by first | (with_reducible assumption) | assumption)
              obtain ⟨ad221, e221, hx221_0, hx221_1, hx221_2, hx221_3⟩ := at_T55 HR0.out x23_2 p221 q221
              cases e221
              replace hx221_0 := (HB.out.cell (World.block_lt_of_cell? w _ hx221_0)).trans hx221_0
              replace hx221_1 := (HB.out.cell (World.block_lt_of_cell? w _ hx221_1)).trans hx221_1
              replace hx221_2 := (HB.out.cell (World.block_lt_of_cell? w _ hx221_2)).trans hx221_2
              replace hx221_3 := (HB.out.cell (World.block_lt_of_cell? w _ hx221_3)).trans hx221_3
              replace p221 := eq_true p221
              replace q221 := eq_true q221
              go_wp2_with (first | ((with_reducible refine gate_dst (N := 8) rfl ?_); refine zbe (N := 8) (cs := #[.int .i64 0, .int .i64 0, .int .i64 0, .int .i64 0]) (t := 55) ?_; intro gb222 hg w22 hbox hb; have BK222 := Aside0.mk (hbox); have GW222 := Aside0.mk (zge (zb0 HB) hg); have GE222 := GW222; replace HO_6 := Aside0.mk (Kd.R_below (Kd.R_elderB (zq3 HO_6) gb222 (Nat.le_of_eq hg.symm)) hb); replace HB := Aside0.mk (below_step (zb0 HB) hb); clear hb hbox hg; have hcz23_0 : w22.cell? ⟨gb222, 0, none⟩ = some (.int .i64 0) := zc BK222 0; have hcz23_1 : w22.cell? ⟨gb222, 1, none⟩ = some (.int .i64 0) := zc BK222 1; have hcz23_2 : w22.cell? ⟨gb222, 2, none⟩ = some (.int .i64 0) := zc BK222 2; have hcz23_3 : w22.cell? ⟨gb222, 3, none⟩ = some (.int .i64 0) := zc BK222 3; have hfz23_0 := blk_frozen BK222.out 0; have hfz23_1 := blk_frozen BK222.out 1; have hfz23_2 := blk_frozen BK222.out 2; have hfz23_3 := blk_frozen BK222.out 3; have p223 : 0 ≤ ((ji13) : Int) := of_decide_eq_true (by first | (with_reducible assumption) | assumption); have q223 : (ji13) < (l0.length : Int) := of_decide_eq_true (by first | (with_reducible assumption) | assumption); obtain ⟨ad223, e223, hx223_0, hx223_1, hx223_2, hx223_3⟩ := at_T55 HR0.out (ji13) p223 q223; obtain rfl : ad221 = ad223 := (by injection e223); have hn223_0 : ad221.block ≠ gb222 := Nat.ne_of_lt (Nat.lt_of_lt_of_le (by have := World.block_lt_of_cell? _ _ hx223_0; first | rwa [add_block] at this | exact this) GW222.out); have hn223_1 : ad221.block ≠ gb222 := Nat.ne_of_lt (Nat.lt_of_lt_of_le (by have := World.block_lt_of_cell? _ _ hx223_0; first | rwa [add_block] at this | exact this) GW222.out); have hn223_2 : ad221.block ≠ gb222 := Nat.ne_of_lt (Nat.lt_of_lt_of_le (by have := World.block_lt_of_cell? _ _ hx223_0; first | rwa [add_block] at this | exact this) GW222.out); have hn223_3 : ad221.block ≠ gb222 := Nat.ne_of_lt (Nat.lt_of_lt_of_le (by have := World.block_lt_of_cell? _ _ hx223_0; first | rwa [add_block] at this | exact this) GW222.out); have hn223_4 : ad221.block ≠ gb222 := Nat.ne_of_lt (Nat.lt_of_lt_of_le (by have := World.block_lt_of_cell? _ _ hx223_0; first | rwa [add_block] at this | exact this) GW222.out); replace hx223_0 := (HB.out.cell (World.block_lt_of_cell? w _ hx223_0)).trans hx223_0; replace hx223_1 := (HB.out.cell (World.block_lt_of_cell? w _ hx223_1)).trans hx223_1; replace hx223_2 := (HB.out.cell (World.block_lt_of_cell? w _ hx223_2)).trans hx223_2; replace hx223_3 := (HB.out.cell (World.block_lt_of_cell? w _ hx223_3)).trans hx223_3; replace hx223_0 := (cell_far (p := ⟨gb222, 0, none⟩) (by first | (rw [add_block]; exact hn223_0) | (show (Addr.add _ _).block ≠ _; rw [add_block]; exact hn223_0) | exact hn223_0) (.int .i64 ((rd_T55 l0 x23_2).f0))).trans hx223_0; replace hx223_1 := (cell_far (p := ⟨gb222, 0, none⟩) (by first | (rw [add_block]; exact hn223_0) | (show (Addr.add _ _).block ≠ _; rw [add_block]; exact hn223_0) | exact hn223_0) (.int .i64 ((rd_T55 l0 x23_2).f0))).trans hx223_1; replace hx223_2 := (cell_far (p := ⟨gb222, 0, none⟩) (by first | (rw [add_block]; exact hn223_0) | (show (Addr.add _ _).block ≠ _; rw [add_block]; exact hn223_0) | exact hn223_0) (.int .i64 ((rd_T55 l0 x23_2).f0))).trans hx223_2; replace hx223_3 := (cell_far (p := ⟨gb222, 0, none⟩) (by first | (rw [add_block]; exact hn223_0) | (show (Addr.add _ _).block ≠ _; rw [add_block]; exact hn223_0) | exact hn223_0) (.int .i64 ((rd_T55 l0 x23_2).f0))).trans hx223_3; replace hx223_0 := (cell_far (p := ⟨gb222, 1, none⟩) (by first | (rw [add_block]; exact hn223_1) | (show (Addr.add _ _).block ≠ _; rw [add_block]; exact hn223_1) | exact hn223_1) (.int .i64 ((rd_T55 l0 x23_2).f1))).trans hx223_0; replace hx223_1 := (cell_far (p := ⟨gb222, 1, none⟩) (by first | (rw [add_block]; exact hn223_1) | (show (Addr.add _ _).block ≠ _; rw [add_block]; exact hn223_1) | exact hn223_1) (.int .i64 ((rd_T55 l0 x23_2).f1))).trans hx223_1; replace hx223_2 := (cell_far (p := ⟨gb222, 1, none⟩) (by first | (rw [add_block]; exact hn223_1) | (show (Addr.add _ _).block ≠ _; rw [add_block]; exact hn223_1) | exact hn223_1) (.int .i64 ((rd_T55 l0 x23_2).f1))).trans hx223_2; replace hx223_3 := (cell_far (p := ⟨gb222, 1, none⟩) (by first | (rw [add_block]; exact hn223_1) | (show (Addr.add _ _).block ≠ _; rw [add_block]; exact hn223_1) | exact hn223_1) (.int .i64 ((rd_T55 l0 x23_2).f1))).trans hx223_3; replace hx223_0 := (cell_far (p := ⟨gb222, 2, none⟩) (by first | (rw [add_block]; exact hn223_2) | (show (Addr.add _ _).block ≠ _; rw [add_block]; exact hn223_2) | exact hn223_2) (.int .i64 ((rd_T55 l0 x23_2).f2))).trans hx223_0; replace hx223_1 := (cell_far (p := ⟨gb222, 2, none⟩) (by first | (rw [add_block]; exact hn223_2) | (show (Addr.add _ _).block ≠ _; rw [add_block]; exact hn223_2) | exact hn223_2) (.int .i64 ((rd_T55 l0 x23_2).f2))).trans hx223_1; replace hx223_2 := (cell_far (p := ⟨gb222, 2, none⟩) (by first | (rw [add_block]; exact hn223_2) | (show (Addr.add _ _).block ≠ _; rw [add_block]; exact hn223_2) | exact hn223_2) (.int .i64 ((rd_T55 l0 x23_2).f2))).trans hx223_2; replace hx223_3 := (cell_far (p := ⟨gb222, 2, none⟩) (by first | (rw [add_block]; exact hn223_2) | (show (Addr.add _ _).block ≠ _; rw [add_block]; exact hn223_2) | exact hn223_2) (.int .i64 ((rd_T55 l0 x23_2).f2))).trans hx223_3; replace hx223_0 := (cell_far (p := ⟨gb222, 3, none⟩) (by first | (rw [add_block]; exact hn223_3) | (show (Addr.add _ _).block ≠ _; rw [add_block]; exact hn223_3) | exact hn223_3) (.int .i64 ((rd_T55 l0 x23_2).f3))).trans hx223_0; replace hx223_1 := (cell_far (p := ⟨gb222, 3, none⟩) (by first | (rw [add_block]; exact hn223_3) | (show (Addr.add _ _).block ≠ _; rw [add_block]; exact hn223_3) | exact hn223_3) (.int .i64 ((rd_T55 l0 x23_2).f3))).trans hx223_1; replace hx223_2 := (cell_far (p := ⟨gb222, 3, none⟩) (by first | (rw [add_block]; exact hn223_3) | (show (Addr.add _ _).block ≠ _; rw [add_block]; exact hn223_3) | exact hn223_3) (.int .i64 ((rd_T55 l0 x23_2).f3))).trans hx223_2; replace hx223_3 := (cell_far (p := ⟨gb222, 3, none⟩) (by first | (rw [add_block]; exact hn223_3) | (show (Addr.add _ _).block ≠ _; rw [add_block]; exact hn223_3) | exact hn223_3) (.int .i64 ((rd_T55 l0 x23_2).f3))).trans hx223_3; replace hx223_0 := (cell_far (p := ⟨gb222, 0, none⟩) (by first | (rw [add_block]; exact hn223_4) | (show (Addr.add _ _).block ≠ _; rw [add_block]; exact hn223_4) | exact hn223_4) (.int .i64 (wrap64 (Int.tdiv ((rd_T55 l0 x23_2).f0) x3_1)))).trans hx223_0; replace hx223_1 := (cell_far (p := ⟨gb222, 0, none⟩) (by first | (rw [add_block]; exact hn223_4) | (show (Addr.add _ _).block ≠ _; rw [add_block]; exact hn223_4) | exact hn223_4) (.int .i64 (wrap64 (Int.tdiv ((rd_T55 l0 x23_2).f0) x3_1)))).trans hx223_1; replace hx223_2 := (cell_far (p := ⟨gb222, 0, none⟩) (by first | (rw [add_block]; exact hn223_4) | (show (Addr.add _ _).block ≠ _; rw [add_block]; exact hn223_4) | exact hn223_4) (.int .i64 (wrap64 (Int.tdiv ((rd_T55 l0 x23_2).f0) x3_1)))).trans hx223_2; replace hx223_3 := (cell_far (p := ⟨gb222, 0, none⟩) (by first | (rw [add_block]; exact hn223_4) | (show (Addr.add _ _).block ≠ _; rw [add_block]; exact hn223_4) | exact hn223_4) (.int .i64 (wrap64 (Int.tdiv ((rd_T55 l0 x23_2).f0) x3_1)))).trans hx223_3; clear hn223_0; clear hn223_1; clear hn223_2; clear hn223_3; clear hn223_4; replace p223 := eq_true p223; replace q223 := eq_true q223) | ((with_reducible refine gate_builtin (b := .append) (xs := #[.tmp 44, .tmp 46]) rfl ?_); at_builtin; refine Kd.R_append k55 (w0 := w) w.heap.size rfl (.tmp 44) (.tmp 46) 25 55 (.agg #[(.int .i64 0), (.int .i64 0), (.int .i64 0), (.int .i64 0)]) 32 rfl Try.underlying25 info55 rfl (by decide) (by omega) u6 x6_2 (⟨wrap64 (Int.tdiv ((rd_T55 l0 x23_2).f0) x3_1), (rd_T55 l0 x23_2).f1, (rd_T55 l0 x23_2).f2, (rd_T55 l0 x23_2).f3⟩ : S55) [.int .i64 (wrap64 (Int.tdiv ((rd_T55 l0 x23_2).f0) x3_1)), .int .i64 ((rd_T55 l0 x23_2).f1), .int .i64 ((rd_T55 l0 x23_2).f2), .int .i64 ((rd_T55 l0 x23_2).f3)] (fun k_ => k_ ≠ gb222) (fun _ => False) rfl (by first | (go_simp; done) | (go_simp; rfl)) ?aP (fun _ hk => hk.elim) ?aF ?aO ?aB ?aS ?aL ?_; (case aP => exact k55_mkM _ _ _ (⟨wrap64 (Int.tdiv ((rd_T55 l0 x23_2).f0) x3_1), (rd_T55 l0 x23_2).f1, (rd_T55 l0 x23_2).f2, (rd_T55 l0 x23_2).f3⟩ : S55)); (case aB => exact (zb1 HB)); (case aF => exact (fun k_ hk => Kd.freshB (g := gb222) (o := .cells #[.int .i64 (wrap64 (Int.tdiv ((rd_T55 l0 x23_2).f0) x3_1)), .int .i64 ((rd_T55 l0 x23_2).f1), .int .i64 ((rd_T55 l0 x23_2).f2), .int .i64 ((rd_T55 l0 x23_2).f3)] 55 (0, 0)) (by (with_reducible repeat (first | refine blk_drewN ?_ _ | refine blk_drew ?_ | refine blk_alloc ?_ _)); refine blk_put (cs := #[.int .i64 ((rd_T55 l0 x23_2).f0), .int .i64 ((rd_T55 l0 x23_2).f1), .int .i64 ((rd_T55 l0 x23_2).f2), .int .i64 ((rd_T55 l0 x23_2).f3)]) ?_ 0 _ rfl; (with_reducible repeat (first | refine blk_drewN ?_ _ | refine blk_drew ?_ | refine blk_alloc ?_ _)); refine blk_put (cs := #[.int .i64 ((rd_T55 l0 x23_2).f0), .int .i64 ((rd_T55 l0 x23_2).f1), .int .i64 ((rd_T55 l0 x23_2).f2), .int .i64 0]) ?_ 3 _ rfl; (with_reducible repeat (first | refine blk_drewN ?_ _ | refine blk_drew ?_ | refine blk_alloc ?_ _)); refine blk_put (cs := #[.int .i64 ((rd_T55 l0 x23_2).f0), .int .i64 ((rd_T55 l0 x23_2).f1), .int .i64 0, .int .i64 0]) ?_ 2 _ rfl; (with_reducible repeat (first | refine blk_drewN ?_ _ | refine blk_drew ?_ | refine blk_alloc ?_ _)); refine blk_put (cs := #[.int .i64 ((rd_T55 l0 x23_2).f0), .int .i64 0, .int .i64 0, .int .i64 0]) ?_ 1 _ rfl; (with_reducible repeat (first | refine blk_drewN ?_ _ | refine blk_drew ?_ | refine blk_alloc ?_ _)); refine blk_put (cs := #[.int .i64 0, .int .i64 0, .int .i64 0, .int .i64 0]) ?_ 0 _ rfl; (with_reducible repeat (first | refine blk_drewN ?_ _ | refine blk_drew ?_ | refine blk_alloc ?_ _)); exact BK222.out) k_ hk)); (case aO => exact (by (with_reducible repeat (first | apply Kd.R_alloc | apply Kd.R_drewN | apply Kd.R_drew)); exact Kd.R_mono (Kd.R_far (p := ⟨gb222, 0, none⟩) (Kd.R_far (p := ⟨gb222, 3, none⟩) (Kd.R_far (p := ⟨gb222, 2, none⟩) (Kd.R_far (p := ⟨gb222, 1, none⟩) (Kd.R_far (p := ⟨gb222, 0, none⟩) (Kd.R_mono HO_6.out (fun k_ hk => (⟨hk, hk.2⟩ : _ ∧ k_ ≠ gb222))) (fun _ hk => hk.2) (.int .i64 ((rd_T55 l0 x23_2).f0))) (fun _ hk => hk.2) (.int .i64 ((rd_T55 l0 x23_2).f1))) (fun _ hk => hk.2) (.int .i64 ((rd_T55 l0 x23_2).f2))) (fun _ hk => hk.2) (.int .i64 ((rd_T55 l0 x23_2).f3))) (fun _ hk => hk.2) (.int .i64 (wrap64 (Int.tdiv ((rd_T55 l0 x23_2).f0) x3_1)))) (fun _ hk => hk.1.2))); (case aS => exact (below_size (zb1 HB))); (case aL => have := LMc21.out; omega); intro v228 w24 ho hb hg hat; rw [← Ny227.out] at ho; have HO229 := Aside0.mk (ho); replace BK222 := Aside0.mk (blk_grown (g := gb222) (o := .cells #[.int .i64 (wrap64 (Int.tdiv ((rd_T55 l0 x23_2).f0) x3_1)), .int .i64 ((rd_T55 l0 x23_2).f1), .int .i64 ((rd_T55 l0 x23_2).f2), .int .i64 ((rd_T55 l0 x23_2).f3)] 55 (0, 0)) (by (with_reducible repeat (first | refine blk_drewN ?_ _ | refine blk_drew ?_ | refine blk_alloc ?_ _)); refine blk_put (cs := #[.int .i64 ((rd_T55 l0 x23_2).f0), .int .i64 ((rd_T55 l0 x23_2).f1), .int .i64 ((rd_T55 l0 x23_2).f2), .int .i64 ((rd_T55 l0 x23_2).f3)]) ?_ 0 _ rfl; (with_reducible repeat (first | refine blk_drewN ?_ _ | refine blk_drew ?_ | refine blk_alloc ?_ _)); refine blk_put (cs := #[.int .i64 ((rd_T55 l0 x23_2).f0), .int .i64 ((rd_T55 l0 x23_2).f1), .int .i64 ((rd_T55 l0 x23_2).f2), .int .i64 0]) ?_ 3 _ rfl; (with_reducible repeat (first | refine blk_drewN ?_ _ | refine blk_drew ?_ | refine blk_alloc ?_ _)); refine blk_put (cs := #[.int .i64 ((rd_T55 l0 x23_2).f0), .int .i64 ((rd_T55 l0 x23_2).f1), .int .i64 0, .int .i64 0]) ?_ 2 _ rfl; (with_reducible repeat (first | refine blk_drewN ?_ _ | refine blk_drew ?_ | refine blk_alloc ?_ _)); refine blk_put (cs := #[.int .i64 ((rd_T55 l0 x23_2).f0), .int .i64 0, .int .i64 0, .int .i64 0]) ?_ 1 _ rfl; (with_reducible repeat (first | refine blk_drewN ?_ _ | refine blk_drew ?_ | refine blk_alloc ?_ _)); refine blk_put (cs := #[.int .i64 0, .int .i64 0, .int .i64 0, .int .i64 0]) ?_ 0 _ rfl; (with_reducible repeat (first | refine blk_drewN ?_ _ | refine blk_drew ?_ | refine blk_alloc ?_ _)); exact BK222.out) hg (Kd.R_away HO_6.out (fun _ hk => hk.2))); replace HB := Aside0.mk (hb); clear HO_6; clear ho hb hg hat))
              go_roundg k2
              case measure => have := HK1.out; have := HK2.out; omega
              case rel => exact ⟨(y227), (wrap64 (x23_2 + 1)), (by first | rfl | (simp; done) | (simp [*]; done)), H', ⟨by have := HK1.out; have := HK2.out; omega⟩, ⟨by (with_reducible repeat (first | apply Kd.R_alloc | apply Kd.R_drewN | apply Kd.R_drew)); exact Kd.R_mono HO229.out (fun _ hk => trivial)⟩, ⟨(zb1 HB)⟩⟩
             ·
              rw [if_neg c21] at H
              exact absurd H (by simp)
           ·
            rw [if_neg c15] at H
            exact absurd H (by simp)
          ·
           rw [if_neg c14] at H
           exact absurd H (by simp)
        ·
         rw [if_neg c11] at H
         exact absurd H (by simp)
       ·
        rw [if_neg c10] at H
        exact absurd H (by simp)
      ·
       rw [if_neg c9] at H
       have c9b0 : decide (x23_2 < (l0.length : Int)) = false := decide_eq_false c9
       clear c9
       obtain rfl := Option.some.inj H
       go_wp2
       go_ret
       exact ⟨_, by first | rfl | (simp [errW_none, errW_some] <;> rfl) | (simp [*, errW_none, errW_some] <;> rfl), by (with_reducible repeat (first | apply Kd.R_alloc | apply Kd.R_drewN | apply Kd.R_drew)); exact HO_6.out, (zb0 HB)⟩
end Go.Proofs.Ytfnmppeoleicbaa.PD
