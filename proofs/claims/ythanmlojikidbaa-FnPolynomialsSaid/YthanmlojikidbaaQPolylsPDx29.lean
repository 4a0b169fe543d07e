-- By wip/mk/drv.py
import Derived.Test.YthanmlojikidbaaQPolylsPDx0
import Derived.Test.YthanmlojikidbaaQPolylsPDx4
import Derived.Test.YthanmlojikidbaaQPolylsPDx11
import Derived.Test.YthanmlojikidbaaQPolylsPDx16
import Derived.Test.YthanmlojikidbaaQPolylsPDx5
namespace Go.Proofs.Ythanmlojikidbaa.PD
open Go.RowKit Go.Proofs.YthanmlojikidbaaW.PrintWords Go.Proofs.YthanmlojikidbaaW.PrintLast Go.Proofs.YthanmlojikidbaaW.PrintMore
attribute [local go_sem] max2_int min2_int max_two min_two max_three min_three max_four min_four
set_option linter.unusedVariables false
set_option linter.unusedSimpArgs false
/-! ### impl_NormalPoly: function 28 -/
set_option maxHeartbeats 8000000 in
set_option maxRecDepth 100000 in
theorem impl_NormalPoly.calls (k : Nat) (A0 : Option Addr) (c0 : Nat) (l0 : List (S51)) (r1 : List (S51)) (r2 : Bool) (w : World) (hr0 : Kd.C k51 w A0 l0.length l0) (hc0 : l0.length ≤ c0) (h : impl_NormalPoly.f k l0 = some (r1, r2)) :
  Calls Try.prog 28 #[.slice A0 l0.length c0] w fun e w' => ∃ v0_ : Value, e = .returned (.tuple #[v0_, .bool r2]) ∧ Kd.R k51 51 w' w.heap.size (fun _ => True) v0_ r1 ∧ Below w.heap.size w w' := by
 have hu51 := Try.underlying51
 have HR0 := Aside0.mk hr0
 have HC0 := Aside0.mk hc0
 clear hr0 hc0
 have HB := Aside0.mk (Below.refl w.heap.size w)
 have H : (if (l0.length : Int) > 40 then (some (([] : List (S51)), false)) else (impl_NormalPoly.l0 k l0 l0 (l0.length : Int) 0)) = some (r1, r2) := h
 clear h
 by_cases c2 : (l0.length : Int) > 40
 ·
  rw [if_pos c2] at H
  have c2b0 : decide (40 < (l0.length : Int)) = true := decide_eq_true c2
  have c2b1 : decide (40 < l0.length) = true := decide_eq_true (by omega)
  clear c2
  simp only [Option.some.injEq, Prod.mk.injEq] at H
  obtain ⟨rfl, rfl⟩ := H
  go_enter Try.func28, Try.ntmps28
  go_wp2
  go_ret2
  exact ⟨_, by first | rfl | (simp [errW_none, errW_some] <;> rfl) | (simp [*, errW_none, errW_some] <;> rfl), by first | exact Kd.R_nil _ _ _ _ _ | exact Kd.N_nil _ _ _ _ _ | exact Kd.V_nil _ _ _ _ _ | exact Kd.Q_nil _ _ _ _ _ | exact Kd.S_nil _ _ _ _ _, (zb0 HB)⟩
 ·
  rw [if_neg c2] at H
  have c2b0 : decide (40 < (l0.length : Int)) = false := decide_eq_false c2
  have c2b1 : decide (40 < l0.length) = false := decide_eq_false (by omega)
  clear c2
  have H' := Aside0.mk H
  clear H
  go_enter Try.func28, Try.ntmps28
  go_wp2
  go_loopg [11] k (fun kq v11 w' => ∃ (x11_1 : Int), v11 = .int .i64 x11_1 ∧ Aside0 (impl_NormalPoly.l0 kq l0 l0 (l0.length : Int) x11_1 = some (r1, r2)) ∧ Aside0 (kq ≤ k) ∧ Aside0 (Below w.heap.size w w'))
  case atStart => exact ⟨(0), (by first | rfl | (simp; done) | (simp [*]; done)), H', ⟨Nat.le_refl _⟩, ⟨(zb0 HB)⟩⟩
  case round =>
   clear H'
   try clear c2
   try clear c2b0
   try clear c2b1
   try clear p2
   obtain ⟨x11_1, rfl, HA, HK1, HB⟩ := hrel
   cases gk with
   | zero => exact absurd HA.out (by simp [impl_NormalPoly.l0])
   | succ k1 =>
    have H := HA.out
    clear HA
    simp only [impl_NormalPoly.l0] at H
    by_cases c3 : x11_1 < (l0.length : Int)
    ·
     rw [if_pos c3] at H
     have c3b0 : decide (x11_1 < (l0.length : Int)) = true := decide_eq_true c3
     clear c3
     by_cases c4 : 0 ≤ x11_1
     ·
      rw [if_pos c4] at H
      have c4b0 : decide (0 ≤ x11_1) = true := decide_eq_true c4
      clear c4
      by_cases c5 : x11_1 < (l0.length : Int)
      ·
       rw [if_pos c5] at H
       have c5b0 : decide (x11_1 < (l0.length : Int)) = true := decide_eq_true c5
       clear c5
       replace H := Option.bind_eq_some_iff.mp H
       obtain ⟨t507, A60, H⟩ := H
       replace H : (if t507 = true then ((impl_hasDegree.f ((rd_T51 l0 x11_1).f0) ((rd_T51 l0 x11_1).f1) ((rd_T51 l0 x11_1).f2) ((rd_T51 l0 x11_1).f3)).bind fun t508 => (if t508 = true then (impl_NormalPoly.l0 k1 l0 l0 (l0.length : Int) (wrap64 (x11_1 + 1))) else (some (([] : List (S51)), false)))) else (some (([] : List (S51)), false))) = some (r1, r2) := H
       have A6 := Aside0.mk A60
       clear A60
       by_cases c7 : t507 = true
       ·
        subst c7
        have H1 : ((impl_hasDegree.f ((rd_T51 l0 x11_1).f0) ((rd_T51 l0 x11_1).f1) ((rd_T51 l0 x11_1).f2) ((rd_T51 l0 x11_1).f3)).bind fun t508 => (if t508 = true then (impl_NormalPoly.l0 k1 l0 l0 (l0.length : Int) (wrap64 (x11_1 + 1))) else (some (([] : List (S51)), false)))) = some (r1, r2) := by rw [if_pos rfl] at H; exact H
        clear H
        have H := H1
        clear H1
        replace H := Option.bind_eq_some_iff.mp H
        obtain ⟨t508, A80, H⟩ := H
        replace H : (if t508 = true then (impl_NormalPoly.l0 k1 l0 l0 (l0.length : Int) (wrap64 (x11_1 + 1))) else (some (([] : List (S51)), false))) = some (r1, r2) := H
        have A8 := Aside0.mk A80
        clear A80
        by_cases c9 : t508 = true
        ·
         subst c9
         have H1 : (impl_NormalPoly.l0 k1 l0 l0 (l0.length : Int) (wrap64 (x11_1 + 1))) = some (r1, r2) := by rw [if_pos rfl] at H; exact H
         clear H
         have H := H1
         clear H1
         have H' := Aside0.mk H
         clear H
         have p505 : 0 ≤ (x11_1 : Int) := of_decide_eq_true (by first | (with_reducible assumption) | assumption)
         have q505 : x11_1 < (l0.length : Int) := of_decide_eq_true (by first | (with_reducible assumption) | assumption)
         obtain ⟨ad505, e505, hx505_0, hx505_1, hx505_2, hx505_3⟩ := at_T51 HR0.out x11_1 p505 q505
         cases e505
         replace hx505_0 := pw_cell_below HB.out hx505_0
         replace hx505_1 := pw_cell_below HB.out hx505_1
         replace hx505_2 := pw_cell_below HB.out hx505_2
         replace hx505_3 := pw_cell_below HB.out hx505_3
         replace p505 := eq_true p505
         replace q505 := eq_true q505
         go_wp2_with (first | ((with_reducible refine gate_dst (N := 5) rfl ?_); refine zbe (N := 5) (cs := #[.int .i64 0, .int .i64 0, .int .i64 0, .int .i64 0]) (t := 51) ?_; intro gb506 hg w10 hbox hb; have BK506 := Aside0.mk (hbox); have GW506 := Aside0.mk (zge (zb0 HB) hg); have GE506 := GW506; replace HB := Aside0.mk (below_step (zb0 HB) hb); clear hb hbox hg; have hcz11_0 : w10.cell? ⟨gb506, 0, none⟩ = some (.int .i64 0) := zc BK506 0; have hcz11_1 : w10.cell? ⟨gb506, 1, none⟩ = some (.int .i64 0) := zc BK506 1; have hcz11_2 : w10.cell? ⟨gb506, 2, none⟩ = some (.int .i64 0) := zc BK506 2; have hcz11_3 : w10.cell? ⟨gb506, 3, none⟩ = some (.int .i64 0) := zc BK506 3; have hfz11_0 := blk_frozen BK506.out 0; have hfz11_1 := blk_frozen BK506.out 1; have hfz11_2 := blk_frozen BK506.out 2; have hfz11_3 := blk_frozen BK506.out 3) | ((with_reducible refine gate_callee (f := 57) rfl ?_); refine goesL_ (some 17) rfl rfl Try.func57 (by kernel_rfl) rfl #[.int .i64 ((rd_T51 l0 x11_1).f0), .int .i64 (-1000), .int .i64 1000] rfl zq6 ?_; (with_reducible refine (impl_inside.calls ((rd_T51 l0 x11_1).f0) (-1000) 1000 true _ A6.out).mono ?_); rintro e w' ⟨rfl, ⟨nd, rfl⟩⟩; refine ⟨_, rfl, ?_⟩) | (go_at_call 65; (with_reducible refine (impl_hasDegree.calls ((rd_T51 l0 x11_1).f0) ((rd_T51 l0 x11_1).f1) ((rd_T51 l0 x11_1).f2) ((rd_T51 l0 x11_1).f3) true _ A8.out).mono ?_); rintro e w12 ⟨rfl, hb⟩; replace BK506 := Aside0.mk (blk_below (g := gb506) (o := .cells #[.int .i64 ((rd_T51 l0 x11_1).f0), .int .i64 ((rd_T51 l0 x11_1).f1), .int .i64 ((rd_T51 l0 x11_1).f2), .int .i64 ((rd_T51 l0 x11_1).f3)] 51 (0, 0)) (by (with_reducible repeat (first | refine blk_drewN ?_ _ | refine blk_drew ?_ | refine blk_alloc ?_ _)); refine blk_put (cs := #[.int .i64 ((rd_T51 l0 x11_1).f0), .int .i64 ((rd_T51 l0 x11_1).f1), .int .i64 ((rd_T51 l0 x11_1).f2), .int .i64 0]) ?_ 3 _ rfl; (with_reducible repeat (first | refine blk_drewN ?_ _ | refine blk_drew ?_ | refine blk_alloc ?_ _)); refine blk_put (cs := #[.int .i64 ((rd_T51 l0 x11_1).f0), .int .i64 ((rd_T51 l0 x11_1).f1), .int .i64 0, .int .i64 0]) ?_ 2 _ rfl; (with_reducible repeat (first | refine blk_drewN ?_ _ | refine blk_drew ?_ | refine blk_alloc ?_ _)); refine blk_put (cs := #[.int .i64 ((rd_T51 l0 x11_1).f0), .int .i64 0, .int .i64 0, .int .i64 0]) ?_ 1 _ rfl; (with_reducible repeat (first | refine blk_drewN ?_ _ | refine blk_drew ?_ | refine blk_alloc ?_ _)); refine blk_put (cs := #[.int .i64 0, .int .i64 0, .int .i64 0, .int .i64 0]) ?_ 0 _ rfl; (with_reducible repeat (first | refine blk_drewN ?_ _ | refine blk_drew ?_ | refine blk_alloc ?_ _)); exact BK506.out) hb); replace HB := Aside0.mk (below_step (zb1 HB) hb); (try clear hb); (try clear hb2); (try clear hk); (try clear hi)))
         go_roundg k1
         case measure => have := HK1.out; omega
         case rel => exact ⟨(wrap64 (x11_1 + 1)), (by first | rfl | (simp; done) | (simp [*]; done)), H', ⟨by have := HK1.out; omega⟩, ⟨(zb1 HB)⟩⟩
        ·
         replace c9 := Bool.eq_false_iff.mpr c9
         subst c9
         have H1 : (some (([] : List (S51)), false)) = some (r1, r2) := by rw [if_neg (show ¬ (false = true) by decide)] at H; exact H
         clear H
         have H := H1
         clear H1
         simp only [Option.some.injEq, Prod.mk.injEq] at H
         obtain ⟨rfl, rfl⟩ := H
         have p505 : 0 ≤ (x11_1 : Int) := of_decide_eq_true (by first | (with_reducible assumption) | assumption)
         have q505 : x11_1 < (l0.length : Int) := of_decide_eq_true (by first | (with_reducible assumption) | assumption)
         obtain ⟨ad505, e505, hx505_0, hx505_1, hx505_2, hx505_3⟩ := at_T51 HR0.out x11_1 p505 q505
         cases e505
         replace hx505_0 := pw_cell_below HB.out hx505_0
         replace hx505_1 := pw_cell_below HB.out hx505_1
         replace hx505_2 := pw_cell_below HB.out hx505_2
         replace hx505_3 := pw_cell_below HB.out hx505_3
         replace p505 := eq_true p505
         replace q505 := eq_true q505
         go_wp2_with (first | ((with_reducible refine gate_dst (N := 5) rfl ?_); refine zbe (N := 5) (cs := #[.int .i64 0, .int .i64 0, .int .i64 0, .int .i64 0]) (t := 51) ?_; intro gb506 hg w13 hbox hb; have BK506 := Aside0.mk (hbox); have GW506 := Aside0.mk (zge (zb0 HB) hg); have GE506 := GW506; replace HB := Aside0.mk (below_step (zb0 HB) hb); clear hb hbox hg; have hcz14_0 : w13.cell? ⟨gb506, 0, none⟩ = some (.int .i64 0) := zc BK506 0; have hcz14_1 : w13.cell? ⟨gb506, 1, none⟩ = some (.int .i64 0) := zc BK506 1; have hcz14_2 : w13.cell? ⟨gb506, 2, none⟩ = some (.int .i64 0) := zc BK506 2; have hcz14_3 : w13.cell? ⟨gb506, 3, none⟩ = some (.int .i64 0) := zc BK506 3; have hfz14_0 := blk_frozen BK506.out 0; have hfz14_1 := blk_frozen BK506.out 1; have hfz14_2 := blk_frozen BK506.out 2; have hfz14_3 := blk_frozen BK506.out 3) | ((with_reducible refine gate_callee (f := 57) rfl ?_); refine goesL_ (some 17) rfl rfl Try.func57 (by kernel_rfl) rfl #[.int .i64 ((rd_T51 l0 x11_1).f0), .int .i64 (-1000), .int .i64 1000] rfl zq6 ?_; (with_reducible refine (impl_inside.calls ((rd_T51 l0 x11_1).f0) (-1000) 1000 true _ A6.out).mono ?_); rintro e w' ⟨rfl, ⟨nd, rfl⟩⟩; refine ⟨_, rfl, ?_⟩) | (go_at_call 65; (with_reducible refine (impl_hasDegree.calls ((rd_T51 l0 x11_1).f0) ((rd_T51 l0 x11_1).f1) ((rd_T51 l0 x11_1).f2) ((rd_T51 l0 x11_1).f3) false _ A8.out).mono ?_); rintro e w15 ⟨rfl, hb⟩; replace BK506 := Aside0.mk (blk_below (g := gb506) (o := .cells #[.int .i64 ((rd_T51 l0 x11_1).f0), .int .i64 ((rd_T51 l0 x11_1).f1), .int .i64 ((rd_T51 l0 x11_1).f2), .int .i64 ((rd_T51 l0 x11_1).f3)] 51 (0, 0)) (by (with_reducible repeat (first | refine blk_drewN ?_ _ | refine blk_drew ?_ | refine blk_alloc ?_ _)); refine blk_put (cs := #[.int .i64 ((rd_T51 l0 x11_1).f0), .int .i64 ((rd_T51 l0 x11_1).f1), .int .i64 ((rd_T51 l0 x11_1).f2), .int .i64 0]) ?_ 3 _ rfl; (with_reducible repeat (first | refine blk_drewN ?_ _ | refine blk_drew ?_ | refine blk_alloc ?_ _)); refine blk_put (cs := #[.int .i64 ((rd_T51 l0 x11_1).f0), .int .i64 ((rd_T51 l0 x11_1).f1), .int .i64 0, .int .i64 0]) ?_ 2 _ rfl; (with_reducible repeat (first | refine blk_drewN ?_ _ | refine blk_drew ?_ | refine blk_alloc ?_ _)); refine blk_put (cs := #[.int .i64 ((rd_T51 l0 x11_1).f0), .int .i64 0, .int .i64 0, .int .i64 0]) ?_ 1 _ rfl; (with_reducible repeat (first | refine blk_drewN ?_ _ | refine blk_drew ?_ | refine blk_alloc ?_ _)); refine blk_put (cs := #[.int .i64 0, .int .i64 0, .int .i64 0, .int .i64 0]) ?_ 0 _ rfl; (with_reducible repeat (first | refine blk_drewN ?_ _ | refine blk_drew ?_ | refine blk_alloc ?_ _)); exact BK506.out) hb); replace HB := Aside0.mk (below_step (zb1 HB) hb); (try clear hb); (try clear hb2); (try clear hk); (try clear hi)))
         go_ret2
         exact ⟨_, by first | rfl | (simp [errW_none, errW_some] <;> rfl) | (simp [*, errW_none, errW_some] <;> rfl), by first | exact Kd.R_nil _ _ _ _ _ | exact Kd.N_nil _ _ _ _ _ | exact Kd.V_nil _ _ _ _ _ | exact Kd.Q_nil _ _ _ _ _ | exact Kd.S_nil _ _ _ _ _, (zb1 HB)⟩
       ·
        replace c7 := Bool.eq_false_iff.mpr c7
        subst c7
        have H1 : (some (([] : List (S51)), false)) = some (r1, r2) := by rw [if_neg (show ¬ (false = true) by decide)] at H; exact H
        clear H
        have H := H1
        clear H1
        simp only [Option.some.injEq, Prod.mk.injEq] at H
        obtain ⟨rfl, rfl⟩ := H
        have p505 : 0 ≤ (x11_1 : Int) := of_decide_eq_true (by first | (with_reducible assumption) | assumption)
        have q505 : x11_1 < (l0.length : Int) := of_decide_eq_true (by first | (with_reducible assumption) | assumption)
        obtain ⟨ad505, e505, hx505_0, hx505_1, hx505_2, hx505_3⟩ := at_T51 HR0.out x11_1 p505 q505
        cases e505
        replace hx505_0 := pw_cell_below HB.out hx505_0
        replace hx505_1 := pw_cell_below HB.out hx505_1
        replace hx505_2 := pw_cell_below HB.out hx505_2
        replace hx505_3 := pw_cell_below HB.out hx505_3
        replace p505 := eq_true p505
        replace q505 := eq_true q505
        go_wp2_with (first | ((with_reducible refine gate_dst (N := 5) rfl ?_); refine zbe (N := 5) (cs := #[.int .i64 0, .int .i64 0, .int .i64 0, .int .i64 0]) (t := 51) ?_; intro gb506 hg w16 hbox hb; have BK506 := Aside0.mk (hbox); have GW506 := Aside0.mk (zge (zb0 HB) hg); have GE506 := GW506; replace HB := Aside0.mk (below_step (zb0 HB) hb); clear hb hbox hg; have hcz17_0 : w16.cell? ⟨gb506, 0, none⟩ = some (.int .i64 0) := zc BK506 0; have hcz17_1 : w16.cell? ⟨gb506, 1, none⟩ = some (.int .i64 0) := zc BK506 1; have hcz17_2 : w16.cell? ⟨gb506, 2, none⟩ = some (.int .i64 0) := zc BK506 2; have hcz17_3 : w16.cell? ⟨gb506, 3, none⟩ = some (.int .i64 0) := zc BK506 3; have hfz17_0 := blk_frozen BK506.out 0; have hfz17_1 := blk_frozen BK506.out 1; have hfz17_2 := blk_frozen BK506.out 2; have hfz17_3 := blk_frozen BK506.out 3) | ((with_reducible refine gate_callee (f := 57) rfl ?_); refine goesL_ (some 17) rfl rfl Try.func57 (by kernel_rfl) rfl #[.int .i64 ((rd_T51 l0 x11_1).f0), .int .i64 (-1000), .int .i64 1000] rfl zq6 ?_; (with_reducible refine (impl_inside.calls ((rd_T51 l0 x11_1).f0) (-1000) 1000 false _ A6.out).mono ?_); rintro e w' ⟨rfl, ⟨nd, rfl⟩⟩; refine ⟨_, rfl, ?_⟩))
        go_ret2
        exact ⟨_, by first | rfl | (simp [errW_none, errW_some] <;> rfl) | (simp [*, errW_none, errW_some] <;> rfl), by first | exact Kd.R_nil _ _ _ _ _ | exact Kd.N_nil _ _ _ _ _ | exact Kd.V_nil _ _ _ _ _ | exact Kd.Q_nil _ _ _ _ _ | exact Kd.S_nil _ _ _ _ _, (zb1 HB)⟩
      ·
       rw [if_neg c5] at H
       exact absurd H (by simp)
     ·
      rw [if_neg c4] at H
      exact absurd H (by simp)
    ·
     rw [if_neg c3] at H
     have c3b0 : decide (x11_1 < (l0.length : Int)) = false := decide_eq_false c3
     clear c3
     replace H := Option.bind_eq_some_iff.mp H
     obtain ⟨t498, A180, H⟩ := H
     replace H : ((impl_polyResult.f k1 t498).bind fun bt501 => (some (bt501.1, bt501.2))) = some (r1, r2) := H
     have A18 := Aside0.mk A180
     clear A180
     replace H := Option.bind_eq_some_iff.mp H
     obtain ⟨⟨t501, t504⟩, A190, H⟩ := H
     replace H : (some (t501, t504)) = some (r1, r2) := H
     have A19 := Aside0.mk A190
     clear A190
     simp only [Option.some.injEq, Prod.mk.injEq] at H
     obtain ⟨rfl, rfl⟩ := H
     go_wp2_with (first | ((with_reducible refine gate_callee (f := 47) rfl ?_); refine goesL_ (some 26) rfl rfl Try.func47 (by kernel_rfl) rfl #[.slice A0 l0.length c0] rfl zq6 ?_; (with_reducible refine (impl_collect.calls _ _ l0 t498 _ ?side1 ?side2 A18.out).mono ?_); (case side1 => repeat (first | exact (Kd.C_below HR0.out HB.out) | (with_reducible refine Kd.C_alloc ?_ _) | (with_reducible refine Kd.C_drewN ?_ _) | (with_reducible refine Kd.C_drew ?_))); (case side2 => exact HC0.out); rintro e w20 ⟨v499, rfl, ho0, hb⟩; refine ⟨_, rfl, ?_⟩; have HO500 := Aside0.mk (Kd.R_lower ho0 (below_size (zb0 HB))); replace HB := Aside0.mk (below_step (zb0 HB) hb); (try clear hb); (try clear hb2); (try clear hk); (try clear hi); (try clear ho0); obtain ⟨Ao21, co21, eo21⟩ := Kd.R_slice HO500.out; subst eo21) | ((with_reducible refine gate_callee (f := 46) rfl ?_); refine goesL_ (some 27) rfl rfl Try.func46 (by kernel_rfl) rfl #[.slice Ao21 t498.length co21] rfl zq6 ?_; (with_reducible refine (impl_polyResult.calls k1 (fun k_ => some k_ = (.slice Ao21 t498.length co21 : Value).ownBlock) (.slice Ao21 t498.length co21) t498 t501 t504 w _ ?side1 ?side2 A19.out).mono ?_); (case side1 => exact zb0 HB); (case side2 => exact Kd.R_tight rfl HO500.out); rintro e w22 ⟨v502, rfl, ho0, hb, hkp⟩; refine ⟨_, rfl, ?_⟩; have HO503 := Aside0.mk (Kd.R_mono (ok' := fun k_ => True) ho0 (fun k_ hk_ => trivial)); replace HB := Aside0.mk (hb); clear HO500; (try clear hb); (try clear hkp); (try clear ho0)))
     go_ret2
     exact ⟨_, by first | rfl | (simp [errW_none, errW_some] <;> rfl) | (simp [*, errW_none, errW_some] <;> rfl), by (with_reducible repeat (first | apply Kd.R_alloc | apply Kd.R_drewN | apply Kd.R_drew)); exact HO503.out, (zb0 HB)⟩
/-! ### spec_NormalPoly: function 29 -/
set_option maxHeartbeats 8000000 in
set_option maxRecDepth 100000 in
theorem spec_NormalPoly.calls (k : Nat) (A0 : Option Addr) (c0 : Nat) (l0 : List (S51)) (r1 : List (S51)) (r2 : Bool) (w : World) (hr0 : Kd.C k51 w A0 l0.length l0) (hc0 : l0.length ≤ c0) (h : spec_NormalPoly.f k l0 = some (r1, r2)) :
  Calls Try.prog 29 #[.slice A0 l0.length c0] w fun e w' => ∃ v0_ : Value, e = .returned (.tuple #[v0_, .bool r2]) ∧ Kd.R k51 51 w' w.heap.size (fun _ => True) v0_ r1 ∧ Below w.heap.size w w' := by
 have hu51 := Try.underlying51
 have HR0 := Aside0.mk hr0
 have HC0 := Aside0.mk hc0
 clear hr0 hc0
 have HB := Aside0.mk (Below.refl w.heap.size w)
 have H : (if (l0.length : Int) > 40 then (some (([] : List (S51)), false)) else (spec_NormalPoly.l0 k l0 l0 (l0.length : Int) 0)) = some (r1, r2) := h
 clear h
 by_cases c2 : (l0.length : Int) > 40
 ·
  rw [if_pos c2] at H
  have c2b0 : decide (40 < (l0.length : Int)) = true := decide_eq_true c2
  have c2b1 : decide (40 < l0.length) = true := decide_eq_true (by omega)
  clear c2
  simp only [Option.some.injEq, Prod.mk.injEq] at H
  obtain ⟨rfl, rfl⟩ := H
  go_enter Try.func29, Try.ntmps29
  go_wp2
  go_ret2
  exact ⟨_, by first | rfl | (simp [errW_none, errW_some] <;> rfl) | (simp [*, errW_none, errW_some] <;> rfl), by first | exact Kd.R_nil _ _ _ _ _ | exact Kd.N_nil _ _ _ _ _ | exact Kd.V_nil _ _ _ _ _ | exact Kd.Q_nil _ _ _ _ _ | exact Kd.S_nil _ _ _ _ _, (zb0 HB)⟩
 ·
  rw [if_neg c2] at H
  have c2b0 : decide (40 < (l0.length : Int)) = false := decide_eq_false c2
  have c2b1 : decide (40 < l0.length) = false := decide_eq_false (by omega)
  clear c2
  have H' := Aside0.mk H
  clear H
  go_enter Try.func29, Try.ntmps29
  go_wp2
  go_loopg [11] k (fun kq v11 w' => ∃ (x11_1 : Int), v11 = .int .i64 x11_1 ∧ Aside0 (spec_NormalPoly.l0 kq l0 l0 (l0.length : Int) x11_1 = some (r1, r2)) ∧ Aside0 (kq ≤ k) ∧ Aside0 (Below w.heap.size w w'))
  case atStart => exact ⟨(0), (by first | rfl | (simp; done) | (simp [*]; done)), H', ⟨Nat.le_refl _⟩, ⟨(zb0 HB)⟩⟩
  case round =>
   clear H'
   try clear c2
   try clear c2b0
   try clear c2b1
   try clear p2
   obtain ⟨x11_1, rfl, HA, HK1, HB⟩ := hrel
   cases gk with
   | zero => exact absurd HA.out (by simp [spec_NormalPoly.l0])
   | succ k1 =>
    have H := HA.out
    clear HA
    simp only [spec_NormalPoly.l0] at H
    by_cases c3 : x11_1 < (l0.length : Int)
    ·
     rw [if_pos c3] at H
     have c3b0 : decide (x11_1 < (l0.length : Int)) = true := decide_eq_true c3
     clear c3
     by_cases c4 : 0 ≤ x11_1
     ·
      rw [if_pos c4] at H
      have c4b0 : decide (0 ≤ x11_1) = true := decide_eq_true c4
      clear c4
      by_cases c5 : x11_1 < (l0.length : Int)
      ·
       rw [if_pos c5] at H
       have c5b0 : decide (x11_1 < (l0.length : Int)) = true := decide_eq_true c5
       clear c5
       replace H := Option.bind_eq_some_iff.mp H
       obtain ⟨t511, A60, H⟩ := H
       replace H : (if t511 = true then (spec_NormalPoly.l0 k1 l0 l0 (l0.length : Int) (wrap64 (x11_1 + 1))) else (some (([] : List (S51)), false))) = some (r1, r2) := H
       have A6 := Aside0.mk A60
       clear A60
       by_cases c7 : t511 = true
       ·
        subst c7
        have H1 : (spec_NormalPoly.l0 k1 l0 l0 (l0.length : Int) (wrap64 (x11_1 + 1))) = some (r1, r2) := by rw [if_pos rfl] at H; exact H
        clear H
        have H := H1
        clear H1
        have H' := Aside0.mk H
        clear H
        have p509 : 0 ≤ (x11_1 : Int) := of_decide_eq_true (by first | (with_reducible assumption) | assumption)
        have q509 : x11_1 < (l0.length : Int) := of_decide_eq_true (by first | (with_reducible assumption) | assumption)
        obtain ⟨ad509, e509, hx509_0, hx509_1, hx509_2, hx509_3⟩ := at_T51 HR0.out x11_1 p509 q509
        cases e509
        replace hx509_0 := pw_cell_below HB.out hx509_0
        replace hx509_1 := pw_cell_below HB.out hx509_1
        replace hx509_2 := pw_cell_below HB.out hx509_2
        replace hx509_3 := pw_cell_below HB.out hx509_3
        replace p509 := eq_true p509
        replace q509 := eq_true q509
        go_wp2_with (first | ((with_reducible refine gate_dst (N := 5) rfl ?_); refine zbe (N := 5) (cs := #[.int .i64 0, .int .i64 0, .int .i64 0, .int .i64 0]) (t := 51) ?_; intro gb510 hg w8 hbox hb; have BK510 := Aside0.mk (hbox); have GW510 := Aside0.mk (zge (zb0 HB) hg); have GE510 := GW510; replace HB := Aside0.mk (below_step (zb0 HB) hb); clear hb hbox hg; have hcz9_0 : w8.cell? ⟨gb510, 0, none⟩ = some (.int .i64 0) := zc BK510 0; have hcz9_1 : w8.cell? ⟨gb510, 1, none⟩ = some (.int .i64 0) := zc BK510 1; have hcz9_2 : w8.cell? ⟨gb510, 2, none⟩ = some (.int .i64 0) := zc BK510 2; have hcz9_3 : w8.cell? ⟨gb510, 3, none⟩ = some (.int .i64 0) := zc BK510 3; have hfz9_0 := blk_frozen BK510.out 0; have hfz9_1 := blk_frozen BK510.out 1; have hfz9_2 := blk_frozen BK510.out 2; have hfz9_3 := blk_frozen BK510.out 3) | ((with_reducible refine gate_callee (f := 66) rfl ?_); refine goesL_ (some 16) rfl rfl Try.func66 (by kernel_rfl) rfl #[.agg #[.int .i64 ((rd_T51 l0 x11_1).f0), .int .i64 ((rd_T51 l0 x11_1).f1), .int .i64 ((rd_T51 l0 x11_1).f2), .int .i64 ((rd_T51 l0 x11_1).f3)]] rfl zq6 ?_; (with_reducible refine (spec_poTerm.calls ((rd_T51 l0 x11_1).f0) ((rd_T51 l0 x11_1).f1) ((rd_T51 l0 x11_1).f2) ((rd_T51 l0 x11_1).f3) true _ A6.out).mono ?_); rintro e w10 ⟨rfl, hb⟩; refine ⟨_, rfl, ?_⟩; replace BK510 := Aside0.mk (blk_below (g := gb510) (o := .cells #[.int .i64 ((rd_T51 l0 x11_1).f0), .int .i64 ((rd_T51 l0 x11_1).f1), .int .i64 ((rd_T51 l0 x11_1).f2), .int .i64 ((rd_T51 l0 x11_1).f3)] 51 (0, 0)) (by (with_reducible repeat (first | refine blk_drewN ?_ _ | refine blk_drew ?_ | refine blk_alloc ?_ _)); refine blk_put (cs := #[.int .i64 ((rd_T51 l0 x11_1).f0), .int .i64 ((rd_T51 l0 x11_1).f1), .int .i64 ((rd_T51 l0 x11_1).f2), .int .i64 0]) ?_ 3 _ rfl; (with_reducible repeat (first | refine blk_drewN ?_ _ | refine blk_drew ?_ | refine blk_alloc ?_ _)); refine blk_put (cs := #[.int .i64 ((rd_T51 l0 x11_1).f0), .int .i64 ((rd_T51 l0 x11_1).f1), .int .i64 0, .int .i64 0]) ?_ 2 _ rfl; (with_reducible repeat (first | refine blk_drewN ?_ _ | refine blk_drew ?_ | refine blk_alloc ?_ _)); refine blk_put (cs := #[.int .i64 ((rd_T51 l0 x11_1).f0), .int .i64 0, .int .i64 0, .int .i64 0]) ?_ 1 _ rfl; (with_reducible repeat (first | refine blk_drewN ?_ _ | refine blk_drew ?_ | refine blk_alloc ?_ _)); refine blk_put (cs := #[.int .i64 0, .int .i64 0, .int .i64 0, .int .i64 0]) ?_ 0 _ rfl; (with_reducible repeat (first | refine blk_drewN ?_ _ | refine blk_drew ?_ | refine blk_alloc ?_ _)); exact BK510.out) hb); replace HB := Aside0.mk (below_step (zb1 HB) hb); (try clear hb); (try clear hb2); (try clear hk); (try clear hi)))
        go_roundg k1
        case measure => have := HK1.out; omega
        case rel => exact ⟨(wrap64 (x11_1 + 1)), (by first | rfl | (simp; done) | (simp [*]; done)), H', ⟨by have := HK1.out; omega⟩, ⟨(zb1 HB)⟩⟩
       ·
        replace c7 := Bool.eq_false_iff.mpr c7
        subst c7
        have H1 : (some (([] : List (S51)), false)) = some (r1, r2) := by rw [if_neg (show ¬ (false = true) by decide)] at H; exact H
        clear H
        have H := H1
        clear H1
        simp only [Option.some.injEq, Prod.mk.injEq] at H
        obtain ⟨rfl, rfl⟩ := H
        have p509 : 0 ≤ (x11_1 : Int) := of_decide_eq_true (by first | (with_reducible assumption) | assumption)
        have q509 : x11_1 < (l0.length : Int) := of_decide_eq_true (by first | (with_reducible assumption) | assumption)
        obtain ⟨ad509, e509, hx509_0, hx509_1, hx509_2, hx509_3⟩ := at_T51 HR0.out x11_1 p509 q509
        cases e509
        replace hx509_0 := pw_cell_below HB.out hx509_0
        replace hx509_1 := pw_cell_below HB.out hx509_1
        replace hx509_2 := pw_cell_below HB.out hx509_2
        replace hx509_3 := pw_cell_below HB.out hx509_3
        replace p509 := eq_true p509
        replace q509 := eq_true q509
        go_wp2_with (first | ((with_reducible refine gate_dst (N := 5) rfl ?_); refine zbe (N := 5) (cs := #[.int .i64 0, .int .i64 0, .int .i64 0, .int .i64 0]) (t := 51) ?_; intro gb510 hg w11 hbox hb; have BK510 := Aside0.mk (hbox); have GW510 := Aside0.mk (zge (zb0 HB) hg); have GE510 := GW510; replace HB := Aside0.mk (below_step (zb0 HB) hb); clear hb hbox hg; have hcz12_0 : w11.cell? ⟨gb510, 0, none⟩ = some (.int .i64 0) := zc BK510 0; have hcz12_1 : w11.cell? ⟨gb510, 1, none⟩ = some (.int .i64 0) := zc BK510 1; have hcz12_2 : w11.cell? ⟨gb510, 2, none⟩ = some (.int .i64 0) := zc BK510 2; have hcz12_3 : w11.cell? ⟨gb510, 3, none⟩ = some (.int .i64 0) := zc BK510 3; have hfz12_0 := blk_frozen BK510.out 0; have hfz12_1 := blk_frozen BK510.out 1; have hfz12_2 := blk_frozen BK510.out 2; have hfz12_3 := blk_frozen BK510.out 3) | ((with_reducible refine gate_callee (f := 66) rfl ?_); refine goesL_ (some 16) rfl rfl Try.func66 (by kernel_rfl) rfl #[.agg #[.int .i64 ((rd_T51 l0 x11_1).f0), .int .i64 ((rd_T51 l0 x11_1).f1), .int .i64 ((rd_T51 l0 x11_1).f2), .int .i64 ((rd_T51 l0 x11_1).f3)]] rfl zq6 ?_; (with_reducible refine (spec_poTerm.calls ((rd_T51 l0 x11_1).f0) ((rd_T51 l0 x11_1).f1) ((rd_T51 l0 x11_1).f2) ((rd_T51 l0 x11_1).f3) false _ A6.out).mono ?_); rintro e w13 ⟨rfl, hb⟩; refine ⟨_, rfl, ?_⟩; replace BK510 := Aside0.mk (blk_below (g := gb510) (o := .cells #[.int .i64 ((rd_T51 l0 x11_1).f0), .int .i64 ((rd_T51 l0 x11_1).f1), .int .i64 ((rd_T51 l0 x11_1).f2), .int .i64 ((rd_T51 l0 x11_1).f3)] 51 (0, 0)) (by (with_reducible repeat (first | refine blk_drewN ?_ _ | refine blk_drew ?_ | refine blk_alloc ?_ _)); refine blk_put (cs := #[.int .i64 ((rd_T51 l0 x11_1).f0), .int .i64 ((rd_T51 l0 x11_1).f1), .int .i64 ((rd_T51 l0 x11_1).f2), .int .i64 0]) ?_ 3 _ rfl; (with_reducible repeat (first | refine blk_drewN ?_ _ | refine blk_drew ?_ | refine blk_alloc ?_ _)); refine blk_put (cs := #[.int .i64 ((rd_T51 l0 x11_1).f0), .int .i64 ((rd_T51 l0 x11_1).f1), .int .i64 0, .int .i64 0]) ?_ 2 _ rfl; (with_reducible repeat (first | refine blk_drewN ?_ _ | refine blk_drew ?_ | refine blk_alloc ?_ _)); refine blk_put (cs := #[.int .i64 ((rd_T51 l0 x11_1).f0), .int .i64 0, .int .i64 0, .int .i64 0]) ?_ 1 _ rfl; (with_reducible repeat (first | refine blk_drewN ?_ _ | refine blk_drew ?_ | refine blk_alloc ?_ _)); refine blk_put (cs := #[.int .i64 0, .int .i64 0, .int .i64 0, .int .i64 0]) ?_ 0 _ rfl; (with_reducible repeat (first | refine blk_drewN ?_ _ | refine blk_drew ?_ | refine blk_alloc ?_ _)); exact BK510.out) hb); replace HB := Aside0.mk (below_step (zb1 HB) hb); (try clear hb); (try clear hb2); (try clear hk); (try clear hi)))
        go_ret2
        exact ⟨_, by first | rfl | (simp [errW_none, errW_some] <;> rfl) | (simp [*, errW_none, errW_some] <;> rfl), by first | exact Kd.R_nil _ _ _ _ _ | exact Kd.N_nil _ _ _ _ _ | exact Kd.V_nil _ _ _ _ _ | exact Kd.Q_nil _ _ _ _ _ | exact Kd.S_nil _ _ _ _ _, (zb1 HB)⟩
      ·
       rw [if_neg c5] at H
       exact absurd H (by simp)
     ·
      rw [if_neg c4] at H
      exact absurd H (by simp)
    ·
     rw [if_neg c3] at H
     have c3b0 : decide (x11_1 < (l0.length : Int)) = false := decide_eq_false c3
     clear c3
     replace H := Option.bind_eq_some_iff.mp H
     obtain ⟨⟨t512, t513⟩, A140, H⟩ := H
     replace H : (some (t512, t513)) = some (r1, r2) := H
     have A14 := Aside0.mk A140
     clear A140
     simp only [Option.some.injEq, Prod.mk.injEq] at H
     obtain ⟨rfl, rfl⟩ := H
     go_wp2_with (first | ((with_reducible refine gate_callee (f := 59) rfl ?_); refine goesL_ (some 20) rfl rfl Try.func59 (by kernel_rfl) rfl #[.slice A0 l0.length c0] rfl zq6 ?_; (with_reducible refine (spec_poSum.calls k1 _ _ l0 t512 t513 _ ?side1 ?side2 A14.out).mono ?_); (case side1 => repeat (first | exact (Kd.C_below HR0.out HB.out) | (with_reducible refine Kd.C_alloc ?_ _) | (with_reducible refine Kd.C_drewN ?_ _) | (with_reducible refine Kd.C_drew ?_))); (case side2 => exact HC0.out); rintro e w15 ⟨v514, rfl, ho0, hb⟩; refine ⟨_, rfl, ?_⟩; have HO515 := Aside0.mk (Kd.R_lower ho0 (below_size (zb0 HB))); replace HB := Aside0.mk (below_step (zb0 HB) hb); (try clear hb); (try clear hb2); (try clear hk); (try clear hi); (try clear ho0)))
     go_ret2
     exact ⟨_, by first | rfl | (simp [errW_none, errW_some] <;> rfl) | (simp [*, errW_none, errW_some] <;> rfl), by (with_reducible repeat (first | apply Kd.R_alloc | apply Kd.R_drewN | apply Kd.R_drew)); exact HO515.out, (zb0 HB)⟩
/-! ### spec_DrawDerivePoly: function 30 -/
theorem z30_0 {P Q : Prop} (h : Aside0 (Q)) (f : Q → P := by intro h_; repeat (first | (with_reducible first | exact h_ | apply IsS67.alloc | apply IsS67.drewN | apply IsS67.drew | apply IsS67.set_1 | apply IsS67.set_2) | exact h_)) : P := f h.out
theorem z30_1 {w W0 W1 : World} {B : Nat} (h : Aside0 (Below B w W0)) (f : Below B w W0 → Below B w W1 := by intro h_; repeat (first | (with_reducible first | exact h_ | apply below_alloc | apply pw_below_drewN | apply below_drew1 | refine below_set ?_ (IsS67.ge (Aside0.out (by assumption)))) | exact h_)) : Below B w W1 := f h.out
set_option maxHeartbeats 8000000 in
set_option maxRecDepth 100000 in
theorem spec_DrawDerivePoly.calls (k : Nat) (A0 : Option Addr) (c0 : Nat) (l0 : List Int) (r1 : List (S51)) (r2 : Int) (w : World) (hr0 : Kd.C (Kd.int .u8) w A0 l0.length l0) (hc0 : l0.length ≤ c0) (h : spec_DrawDerivePoly.f k l0 = some (r1, r2)) :
  Calls Try.prog 30 #[.slice A0 l0.length c0] w fun e w' => ∃ v0_ : Value, e = .returned (.tuple #[v0_, .int .i64 r2]) ∧ Kd.R k51 51 w' w.heap.size (fun _ => True) v0_ r1 ∧ Below w.heap.size w w' := by
 have hu67 := Try.underlying67
 have HR0 := Aside0.mk hr0
 have HC0 := Aside0.mk hc0
 clear hr0 hc0
 have HB := Aside0.mk (Below.refl w.heap.size w)
 have H : ((spec_l1Cur_pick.f l0 0 0 3).bind fun bt529 => ((spec_l1Cur_anyPoly.f k l0 bt529.2.1 bt529.2.2 (wrap64 (1 + bt529.1))).bind fun bt532 => ((spec_l1Cur_unknownOf.f l0 bt532.2.1 bt532.2.2).bind fun bt537 => (some (bt532.1, bt537.1))))) = some (r1, r2) := h
 clear h
 replace H := Option.bind_eq_some_iff.mp H
 obtain ⟨⟨t529, t530, t531⟩, A20, H⟩ := H
 replace H : ((spec_l1Cur_anyPoly.f k l0 t530 t531 (wrap64 (1 + t529))).bind fun bt532 => ((spec_l1Cur_unknownOf.f l0 bt532.2.1 bt532.2.2).bind fun bt537 => (some (bt532.1, bt537.1)))) = some (r1, r2) := H
 have A2 := Aside0.mk A20
 clear A20
 replace H := Option.bind_eq_some_iff.mp H
 obtain ⟨⟨t532, t535, t536⟩, A30, H⟩ := H
 replace H : ((spec_l1Cur_unknownOf.f l0 t535 t536).bind fun bt537 => (some (t532, bt537.1))) = some (r1, r2) := H
 have A3 := Aside0.mk A30
 clear A30
 replace H := Option.bind_eq_some_iff.mp H
 obtain ⟨⟨t537, t538, t539⟩, A40, H⟩ := H
 replace H : (some (t532, t537)) = some (r1, r2) := H
 have A4 := Aside0.mk A40
 clear A40
 simp only [Option.some.injEq, Prod.mk.injEq] at H
 obtain ⟨rfl, rfl⟩ := H
 go_enter Try.func30, Try.ntmps30
 go_wp2_with (first | ((with_reducible refine gate_dst (N := 7) rfl ?_); refine zbe (N := 7) (cs := #[.slice A0 l0.length c0, .int .i64 0, .int .u64 0]) (t := 67) ?_; intro gb528 hg w5 hbox hb; have BK528 := Aside0.mk (hbox); have GW528 := Aside0.mk (zge (zb0 HB) hg); have GE528 := GW528; replace HB := Aside0.mk (below_step (zb0 HB) hb); clear hb hbox hg; have HI528 : Aside0 (IsS67 w w5 gb528 l0 0 0) := ⟨⟨A0, c0, (zq1 BK528), GE528.out, HR0.out⟩⟩) | ((with_reducible refine gate_callee (f := 50) rfl ?_); refine goesL_ (some 10) rfl rfl Try.func50 (by kernel_rfl) rfl #[.pointer (some ⟨gb528, 0, none⟩), .int .i64 3] rfl zq6 ?_; (with_reducible refine (spec_l1Cur_pick.calls gb528 l0 0 0 3 t529 t530 t531 w _ ?side1 ?side2 A2.out).mono ?_); (case side1 => exact z30_0 HI528); (case side2 => exact z30_1 HB); rintro e w6 ⟨rfl, hi, hb, hk⟩; refine ⟨_, rfl, ?_⟩; replace HB := Aside0.mk (hb); replace HI528 := Aside0.mk (hi); (try clear hb); (try clear hb2); (try clear hk); (try clear hi)) | ((with_reducible refine gate_callee (f := 51) rfl ?_); refine goesL_ (some 12) rfl rfl Try.func51 (by kernel_rfl) rfl #[.pointer (some ⟨gb528, 0, none⟩), .int .i64 (wrap64 (1 + t529))] rfl zq6 ?_; (with_reducible refine (spec_l1Cur_anyPoly.calls k gb528 l0 t530 t531 (wrap64 (1 + t529)) t532 t535 t536 w _ ?side1 ?side2 A3.out).mono ?_); (case side1 => exact z30_0 HI528); (case side2 => exact z30_1 HB); rintro e w7 ⟨v533, rfl, ho0, hi, hb, hk⟩; refine ⟨_, rfl, ?_⟩; have HO534 := Aside0.mk (Kd.R_lower ho0 (below_size (z30_1 HB))); replace HB := Aside0.mk (hb); replace HI528 := Aside0.mk (hi); (try clear hb); (try clear hb2); (try clear hk); (try clear hi); (try clear ho0)) | ((with_reducible refine gate_callee (f := 67) rfl ?_); refine goesL_ (some 14) rfl rfl Try.func67 (by kernel_rfl) rfl #[.pointer (some ⟨gb528, 0, none⟩)] rfl zq6 ?_; (with_reducible refine (spec_l1Cur_unknownOf.calls gb528 l0 t535 t536 t537 t538 t539 w _ ?side1 ?side2 A4.out).mono ?_); (case side1 => exact z30_0 HI528); (case side2 => exact z30_1 HB); rintro e w8 ⟨rfl, hi, hb, hk⟩; refine ⟨_, rfl, ?_⟩; replace HO534 := Aside0.mk (Kd.R_mono (Kd.R_keep (IsS67.apart (show IsS67 w _ gb528 l0 t535 t536 from (z30_0 HI528)) (zq3 HO534) (by decide)) hk (fun _ h => h.2)) (fun _ h => h.1)); replace HB := Aside0.mk (hb); replace HI528 := Aside0.mk (hi); (try clear hb); (try clear hb2); (try clear hk); (try clear hi)))
 go_ret2
 exact ⟨_, by first | rfl | (simp [errW_none, errW_some] <;> rfl) | (simp [*, errW_none, errW_some] <;> rfl), by (with_reducible repeat (first | apply Kd.R_alloc | apply Kd.R_drewN | apply Kd.R_drew)); exact HO534.out, (z30_1 HB)⟩
/-! ### spec_DrawScalePoly: function 31 -/
theorem z31_0 {P Q : Prop} (h : Aside0 (Q)) (f : Q → P := by intro h_; repeat (first | (with_reducible first | exact h_ | apply IsS67.alloc | apply IsS67.drewN | apply IsS67.drew | apply IsS67.set_1 | apply IsS67.set_2) | exact h_)) : P := f h.out
theorem z31_1 {w W0 W1 : World} {B : Nat} (h : Aside0 (Below B w W0)) (f : Below B w W0 → Below B w W1 := by intro h_; repeat (first | (with_reducible first | exact h_ | apply below_alloc | apply pw_below_drewN | apply below_drew1 | refine below_set ?_ (IsS67.ge (Aside0.out (by assumption)))) | exact h_)) : Below B w W1 := f h.out
set_option maxHeartbeats 8000000 in
set_option maxRecDepth 100000 in
theorem spec_DrawScalePoly.calls (k : Nat) (A0 : Option Addr) (c0 : Nat) (l0 : List Int) (r1 : List (S51)) (r2 : Int) (w : World) (hr0 : Kd.C (Kd.int .u8) w A0 l0.length l0) (hc0 : l0.length ≤ c0) (h : spec_DrawScalePoly.f k l0 = some (r1, r2)) :
  Calls Try.prog 31 #[.slice A0 l0.length c0] w fun e w' => ∃ v0_ : Value, e = .returned (.tuple #[v0_, .int .i64 r2]) ∧ Kd.R k51 51 w' w.heap.size (fun _ => True) v0_ r1 ∧ Below w.heap.size w w' := by
 have hu67 := Try.underlying67
 have HR0 := Aside0.mk hr0
 have HC0 := Aside0.mk hc0
 clear hr0 hc0
 have HB := Aside0.mk (Below.refl w.heap.size w)
 have H : ((spec_l1Cur_pick.f l0 0 0 3).bind fun bt541 => ((spec_l1Cur_anyPoly.f k l0 bt541.2.1 bt541.2.2 (wrap64 (1 + bt541.1))).bind fun bt544 => ((spec_l1Cur_among.f l0 bt544.2.1 bt544.2.2 (([1001, (-9223372036854775808)] : List Int))).bind fun bt552 => ((spec_l1Cur_among.f l0 bt552.2.1 bt552.2.2 (([0, 1, (-1), 2, 7, (-40), 1000, (-1000), bt552.1] : List Int))).bind fun bt558 => (some (bt544.1, bt558.1)))))) = some (r1, r2) := h
 clear h
 replace H := Option.bind_eq_some_iff.mp H
 obtain ⟨⟨t541, t542, t543⟩, A20, H⟩ := H
 replace H : ((spec_l1Cur_anyPoly.f k l0 t542 t543 (wrap64 (1 + t541))).bind fun bt544 => ((spec_l1Cur_among.f l0 bt544.2.1 bt544.2.2 (([1001, (-9223372036854775808)] : List Int))).bind fun bt552 => ((spec_l1Cur_among.f l0 bt552.2.1 bt552.2.2 (([0, 1, (-1), 2, 7, (-40), 1000, (-1000), bt552.1] : List Int))).bind fun bt558 => (some (bt544.1, bt558.1))))) = some (r1, r2) := H
 have A2 := Aside0.mk A20
 clear A20
 replace H := Option.bind_eq_some_iff.mp H
 obtain ⟨⟨t544, t547, t548⟩, A30, H⟩ := H
 replace H : ((spec_l1Cur_among.f l0 t547 t548 (([1001, (-9223372036854775808)] : List Int))).bind fun bt552 => ((spec_l1Cur_among.f l0 bt552.2.1 bt552.2.2 (([0, 1, (-1), 2, 7, (-40), 1000, (-1000), bt552.1] : List Int))).bind fun bt558 => (some (t544, bt558.1)))) = some (r1, r2) := H
 have A3 := Aside0.mk A30
 clear A30
 obtain ⟨y549, hy549⟩ : ∃ y_ : List Int, y_ = (([1001, (-9223372036854775808)] : List Int)) := ⟨_, rfl⟩
 replace H : ((spec_l1Cur_among.f l0 t547 t548 y549).bind fun bt552 => ((spec_l1Cur_among.f l0 bt552.2.1 bt552.2.2 (([0, 1, (-1), 2, 7, (-40), 1000, (-1000), bt552.1] : List Int))).bind fun bt558 => (some (t544, bt558.1)))) = some (r1, r2) := by first | (rw [hy549]; with_reducible exact H) | (have H2_ := (Option.bind_some _ _).symm.trans H; rw [hy549]; with_reducible exact H2_) | (have H2_ := (Option.bind_some _ _).symm.trans H; with_reducible exact H2_) | with_reducible exact H | (rw [hy549]; exact H) | exact H
 have Ny549 := Aside0.mk hy549
 clear hy549
 replace H := Option.bind_eq_some_iff.mp H
 obtain ⟨⟨t552, t553, t554⟩, A40, H⟩ := H
 replace H : ((spec_l1Cur_among.f l0 t553 t554 (([0, 1, (-1), 2, 7, (-40), 1000, (-1000), t552] : List Int))).bind fun bt558 => (some (t544, bt558.1))) = some (r1, r2) := H
 have A4 := Aside0.mk A40
 clear A40
 obtain ⟨y555, hy555⟩ : ∃ y_ : List Int, y_ = (([0, 1, (-1), 2, 7, (-40), 1000, (-1000), t552] : List Int)) := ⟨_, rfl⟩
 replace H : ((spec_l1Cur_among.f l0 t553 t554 y555).bind fun bt558 => (some (t544, bt558.1))) = some (r1, r2) := by first | (rw [hy555]; with_reducible exact H) | (have H2_ := (Option.bind_some _ _).symm.trans H; rw [hy555]; with_reducible exact H2_) | (have H2_ := (Option.bind_some _ _).symm.trans H; with_reducible exact H2_) | with_reducible exact H | (rw [hy555]; exact H) | exact H
 have Ny555 := Aside0.mk hy555
 clear hy555
 replace H := Option.bind_eq_some_iff.mp H
 obtain ⟨⟨t558, t559, t560⟩, A50, H⟩ := H
 replace H : (some (t544, t558)) = some (r1, r2) := H
 have A5 := Aside0.mk A50
 clear A50
 simp only [Option.some.injEq, Prod.mk.injEq] at H
 obtain ⟨rfl, rfl⟩ := H
 go_enter Try.func31, Try.ntmps31
 go_wp2_with (first | ((with_reducible refine gate_dst (N := 7) rfl ?_); refine zbe (N := 7) (cs := #[.slice A0 l0.length c0, .int .i64 0, .int .u64 0]) (t := 67) ?_; intro gb540 hg w6 hbox hb; have BK540 := Aside0.mk (hbox); have GW540 := Aside0.mk (zge (zb0 HB) hg); have GE540 := GW540; replace HB := Aside0.mk (below_step (zb0 HB) hb); clear hb hbox hg; have HI540 : Aside0 (IsS67 w w6 gb540 l0 0 0) := ⟨⟨A0, c0, (zq1 BK540), GE540.out, HR0.out⟩⟩) | ((with_reducible refine gate_callee (f := 50) rfl ?_); refine goesL_ (some 10) rfl rfl Try.func50 (by kernel_rfl) rfl #[.pointer (some ⟨gb540, 0, none⟩), .int .i64 3] rfl zq6 ?_; (with_reducible refine (spec_l1Cur_pick.calls gb540 l0 0 0 3 t541 t542 t543 w _ ?side1 ?side2 A2.out).mono ?_); (case side1 => exact z31_0 HI540); (case side2 => exact z31_1 HB); rintro e w7 ⟨rfl, hi, hb, hk⟩; refine ⟨_, rfl, ?_⟩; replace HB := Aside0.mk (hb); replace HI540 := Aside0.mk (hi); (try clear hb); (try clear hb2); (try clear hk); (try clear hi)) | ((with_reducible refine gate_callee (f := 51) rfl ?_); refine goesL_ (some 12) rfl rfl Try.func51 (by kernel_rfl) rfl #[.pointer (some ⟨gb540, 0, none⟩), .int .i64 (wrap64 (1 + t541))] rfl zq6 ?_; (with_reducible refine (spec_l1Cur_anyPoly.calls k gb540 l0 t542 t543 (wrap64 (1 + t541)) t544 t547 t548 w _ ?side1 ?side2 A3.out).mono ?_); (case side1 => exact z31_0 HI540); (case side2 => exact z31_1 HB); rintro e w8 ⟨v545, rfl, ho0, hi, hb, hk⟩; refine ⟨_, rfl, ?_⟩; have HO546 := Aside0.mk (Kd.R_lower ho0 (below_size (z31_1 HB))); replace HB := Aside0.mk (hb); replace HI540 := Aside0.mk (hi); (try clear hb); (try clear hb2); (try clear hk); (try clear hi); (try clear ho0)) | ((with_reducible refine gate_dst (N := 15) rfl ?_); refine Kd.R_lit (Kd.int .i64) _ 3 ?hg (N := 15) ?hd (xs := ([1001, (-9223372036854775808)] : List Int)) (inner := [.int .i64 1001, .int .i64 (-9223372036854775808)]) (ok := fun _ => True) (okp := fun _ => True) ?hr ?hp (fun _ hk => hk) trivial (Below.refl _ _) (Nat.le_refl _) (by simp) ?_; (case hd => rfl); (case hg => rfl); (case hr => first | (go_simp; done) | (go_simp; rfl)); (case hp => exact (Reps.one (show Kd.M (Kd.int .i64) _ _ _ 1001 [.int .i64 1001] from rfl) (Reps.one (show Kd.M (Kd.int .i64) _ _ _ (-9223372036854775808) [.int .i64 (-9223372036854775808)] from rfl) (Reps.none _ _)))); intro v550 w9 ho10 hb hg_ hnew_; clear hg_ hnew_; (first | rw [← Ny549.out] at ho10 | (simp only [Int.reduceToNat] at ho10; rw [← Ny549.out] at ho10)); have HO551 := Aside0.mk (Kd.R_lower ho10 (below_size (z31_1 HB))); replace HO546 := Aside0.mk (Kd.R_below (zq3 HO546) hb); replace HI540 := Aside0.mk (IsS67.below (z31_0 HI540) hb); replace HB := Aside0.mk (below_step (z31_1 HB) hb); clear hb ho10; obtain ⟨Ao11, co11, eo11⟩ := Kd.R_slice HO551.out; subst eo11) | ((with_reducible refine gate_callee (f := 64) rfl ?_); refine goesL_ (some 16) rfl rfl Try.func64 (by kernel_rfl) rfl #[.pointer (some ⟨gb540, 0, none⟩), .slice Ao11 y549.length co11] rfl zq6 ?_; (with_reducible refine (spec_l1Cur_among.calls gb540 l0 t547 t548 _ _ y549 t552 t553 t554 w _ ?side1 ?side2 ?side3 ?side4 ?side5 A4.out).mono ?_); (case side1 => exact z31_0 HI540); (case side2 => exact z31_1 HB); (case side3 => repeat (first | exact (Kd.R_reads' HO551.out).2.2 | (with_reducible refine Kd.C_alloc ?_ _) | (with_reducible refine Kd.C_drewN ?_ _) | (with_reducible refine Kd.C_drew ?_))); (case side4 => exact (Kd.R_reads' HO551.out).2.1); (case side5 => exact far_slice (IsS67.own_ne HI540.out HO551.out (by decide))); rintro e w12 ⟨rfl, hi, hb, hk⟩; refine ⟨_, rfl, ?_⟩; replace HO546 := Aside0.mk (Kd.R_mono (Kd.R_keep (IsS67.apart (show IsS67 w _ gb540 l0 t547 t548 from (z31_0 HI540)) (zq3 HO546) (by decide)) hk (fun _ h => h.2)) (fun _ h => h.1)); replace HO551 := Aside0.mk (Kd.R_mono (Kd.R_keep (IsS67.apart (show IsS67 w _ gb540 l0 t547 t548 from (z31_0 HI540)) (zq3 HO551) (by decide)) hk (fun _ h => h.2)) (fun _ h => h.1)); replace HB := Aside0.mk (hb); replace HI540 := Aside0.mk (hi); (try clear hb); (try clear hb2); (try clear hk); (try clear hi)) | ((with_reducible refine gate_dst (N := 17) rfl ?_); refine Kd.R_lit (Kd.int .i64) _ 3 ?hg (N := 17) ?hd (xs := ([0, 1, (-1), 2, 7, (-40), 1000, (-1000), t552] : List Int)) (inner := [.int .i64 0, .int .i64 1, .int .i64 (-1), .int .i64 2, .int .i64 7, .int .i64 (-40), .int .i64 1000, .int .i64 (-1000), .int .i64 t552]) (ok := fun _ => True) (okp := fun _ => True) ?hr ?hp (fun _ hk => hk) trivial (Below.refl _ _) (Nat.le_refl _) (by simp) ?_; (case hd => rfl); (case hg => rfl); (case hr => first | (go_simp; done) | (go_simp; rfl)); (case hp => exact (Reps.one (show Kd.M (Kd.int .i64) _ _ _ 0 [.int .i64 0] from rfl) (Reps.one (show Kd.M (Kd.int .i64) _ _ _ 1 [.int .i64 1] from rfl) (Reps.one (show Kd.M (Kd.int .i64) _ _ _ (-1) [.int .i64 (-1)] from rfl) (Reps.one (show Kd.M (Kd.int .i64) _ _ _ 2 [.int .i64 2] from rfl) (Reps.one (show Kd.M (Kd.int .i64) _ _ _ 7 [.int .i64 7] from rfl) (Reps.one (show Kd.M (Kd.int .i64) _ _ _ (-40) [.int .i64 (-40)] from rfl) (Reps.one (show Kd.M (Kd.int .i64) _ _ _ 1000 [.int .i64 1000] from rfl) (Reps.one (show Kd.M (Kd.int .i64) _ _ _ (-1000) [.int .i64 (-1000)] from rfl) (Reps.one (show Kd.M (Kd.int .i64) _ _ _ t552 [.int .i64 t552] from rfl) (Reps.none _ _))))))))))); intro v556 w13 ho14 hb hg_ hnew_; clear hg_ hnew_; (first | rw [← Ny555.out] at ho14 | (simp only [Int.reduceToNat] at ho14; rw [← Ny555.out] at ho14)); have HO557 := Aside0.mk (Kd.R_lower (Kd.R_new' ho14 (Kd.R_lt (zq3 HO551))) (below_size (z31_1 HB))); replace HO546 := Aside0.mk (Kd.R_below (zq3 HO546) hb); replace HO551 := Aside0.mk (Kd.R_elder' (zq3 HO551) (Kd.R_base ho14) hb); replace HI540 := Aside0.mk (IsS67.below (z31_0 HI540) hb); replace HB := Aside0.mk (below_step (z31_1 HB) hb); clear hb ho14; obtain ⟨Ao15, co15, eo15⟩ := Kd.R_slice HO557.out; subst eo15) | ((with_reducible refine gate_callee (f := 64) rfl ?_); refine goesL_ (some 18) rfl rfl Try.func64 (by kernel_rfl) rfl #[.pointer (some ⟨gb540, 0, none⟩), .slice Ao15 y555.length co15] rfl zq6 ?_; (with_reducible refine (spec_l1Cur_among.calls gb540 l0 t553 t554 _ _ y555 t558 t559 t560 w _ ?side1 ?side2 ?side3 ?side4 ?side5 A5.out).mono ?_); (case side1 => exact z31_0 HI540); (case side2 => exact z31_1 HB); (case side3 => repeat (first | exact (Kd.R_reads' HO557.out).2.2 | (with_reducible refine Kd.C_alloc ?_ _) | (with_reducible refine Kd.C_drewN ?_ _) | (with_reducible refine Kd.C_drew ?_))); (case side4 => exact (Kd.R_reads' HO557.out).2.1); (case side5 => exact far_slice (IsS67.own_ne HI540.out HO557.out (by decide))); rintro e w16 ⟨rfl, hi, hb, hk⟩; refine ⟨_, rfl, ?_⟩; replace HO546 := Aside0.mk (Kd.R_mono (Kd.R_keep (IsS67.apart (show IsS67 w _ gb540 l0 t553 t554 from (z31_0 HI540)) (zq3 HO546) (by decide)) hk (fun _ h => h.2)) (fun _ h => h.1)); replace HO551 := Aside0.mk (Kd.R_mono (Kd.R_keep (IsS67.apart (show IsS67 w _ gb540 l0 t553 t554 from (z31_0 HI540)) (zq3 HO551) (by decide)) hk (fun _ h => h.2)) (fun _ h => h.1)); replace HO557 := Aside0.mk (Kd.R_mono (Kd.R_keep (IsS67.apart (show IsS67 w _ gb540 l0 t553 t554 from (z31_0 HI540)) (zq3 HO557) (by decide)) hk (fun _ h => h.2)) (fun _ h => h.1)); replace HB := Aside0.mk (hb); replace HI540 := Aside0.mk (hi); (try clear hb); (try clear hb2); (try clear hk); (try clear hi)))
 go_ret2
 exact ⟨_, by first | rfl | (simp [errW_none, errW_some] <;> rfl) | (simp [*, errW_none, errW_some] <;> rfl), by (with_reducible repeat (first | apply Kd.R_alloc | apply Kd.R_drewN | apply Kd.R_drew)); exact HO546.out, (z31_1 HB)⟩
/-! ### spec_ScalePoly: function 32 -/
set_option maxHeartbeats 8000000 in
set_option maxRecDepth 100000 in
theorem spec_ScalePoly.calls (k : Nat) (A0 : Option Addr) (c0 : Nat) (l0 : List (S51)) (a1 : Int) (r1 : List (S51)) (r2 : Bool) (w : World) (hr0 : Kd.C k51 w A0 l0.length l0) (hc0 : l0.length ≤ c0) (h : spec_ScalePoly.f k l0 a1 = some (r1, r2)) :
  Calls Try.prog 32 #[.slice A0 l0.length c0, .int .i64 a1] w fun e w' => ∃ v0_ : Value, e = .returned (.tuple #[v0_, .bool r2]) ∧ Kd.R k51 51 w' w.heap.size (fun _ => True) v0_ r1 ∧ Below w.heap.size w w' := by
 have hu51 := Try.underlying51
 have HR0 := Aside0.mk hr0
 have HC0 := Aside0.mk hc0
 clear hr0 hc0
 have HB := Aside0.mk (Below.refl w.heap.size w)
 have H : ((spec_poGood.f k l0).bind fun t561 => (if t561 = true then ((spec_l1In.f a1 (-1000) 1000).bind fun t562 => (spec_ScalePoly.j0 k l0 a1 (!t562))) else (spec_ScalePoly.j0 k l0 a1 true))) = some (r1, r2) := h
 clear h
 have HC3 := Aside0.mk H
 clear H
 go_enter Try.func32, Try.ntmps32
 go_upto_region 1 with (fail)
 go_cut [13] (fun v13 wc => ∃ (kq : Nat) (x13_2 : Bool), v13 = .bool x13_2 ∧ Aside0 (spec_ScalePoly.j0 kq l0 a1 x13_2 = some (r1, r2)) ∧ Aside0 (kq ≤ k) ∧ Aside0 (Below w.heap.size w wc))
 case first =>
  have H := HC3.out
  clear HC3
  replace H := Option.bind_eq_some_iff.mp H
  obtain ⟨t561, A40, H⟩ := H
  replace H : (if t561 = true then ((spec_l1In.f a1 (-1000) 1000).bind fun t562 => (spec_ScalePoly.j0 k l0 a1 (!t562))) else (spec_ScalePoly.j0 k l0 a1 true)) = some (r1, r2) := H
  have A4 := Aside0.mk A40
  clear A40
  by_cases c5 : t561 = true
  ·
   subst c5
   have H1 : ((spec_l1In.f a1 (-1000) 1000).bind fun t562 => (spec_ScalePoly.j0 k l0 a1 (!t562))) = some (r1, r2) := by rw [if_pos rfl] at H; exact H
   clear H
   have H := H1
   clear H1
   replace H := Option.bind_eq_some_iff.mp H
   obtain ⟨t562, A60, H⟩ := H
   replace H : (spec_ScalePoly.j0 k l0 a1 (!t562)) = some (r1, r2) := H
   have A6 := Aside0.mk A60
   clear A60
   have H' := Aside0.mk H
   clear H
   go_wp2_with (first | ((with_reducible refine gate_callee (f := 33) rfl ?_); refine goesL_ (some 7) rfl rfl Try.func33 (by kernel_rfl) rfl #[.slice A0 l0.length c0] rfl zq6 ?_; (with_reducible refine (spec_poGood.calls k _ _ l0 true _ ?side1 ?side2 A4.out).mono ?_); (case side1 => repeat (first | exact (Kd.C_below HR0.out HB.out) | (with_reducible refine Kd.C_alloc ?_ _) | (with_reducible refine Kd.C_drewN ?_ _) | (with_reducible refine Kd.C_drew ?_))); (case side2 => exact HC0.out); rintro e w7 ⟨rfl, hb⟩; refine ⟨_, rfl, ?_⟩; replace HB := Aside0.mk (below_step (zb0 HB) hb); (try clear hb); (try clear hb2); (try clear hk); (try clear hi)) | (go_at_call 68; (with_reducible refine (spec_l1In.calls a1 (-1000) 1000 t562 _ A6.out).mono ?_); rintro e w' ⟨rfl, ⟨nd, rfl⟩⟩))
   go_meet
   case rel => exact ⟨_, (!t562), (by first | rfl | (simp; done) | (simp [*]; done)), H', ⟨by first | omega | exact Nat.le_refl _⟩, ⟨(zb0 HB)⟩⟩
  ·
   replace c5 := Bool.eq_false_iff.mpr c5
   subst c5
   have H1 : (spec_ScalePoly.j0 k l0 a1 true) = some (r1, r2) := by rw [if_neg (show ¬ (false = true) by decide)] at H; exact H
   clear H
   have H := H1
   clear H1
   have H' := Aside0.mk H
   clear H
   go_wp2_with (first | ((with_reducible refine gate_callee (f := 33) rfl ?_); refine goesL_ (some 7) rfl rfl Try.func33 (by kernel_rfl) rfl #[.slice A0 l0.length c0] rfl zq6 ?_; (with_reducible refine (spec_poGood.calls k _ _ l0 false _ ?side1 ?side2 A4.out).mono ?_); (case side1 => repeat (first | exact (Kd.C_below HR0.out HB.out) | (with_reducible refine Kd.C_alloc ?_ _) | (with_reducible refine Kd.C_drewN ?_ _) | (with_reducible refine Kd.C_drew ?_))); (case side2 => exact HC0.out); rintro e w8 ⟨rfl, hb⟩; refine ⟨_, rfl, ?_⟩; replace HB := Aside0.mk (below_step (zb0 HB) hb); (try clear hb); (try clear hb2); (try clear hk); (try clear hi)))
   go_meet
   case rel => exact ⟨_, (true), (by first | rfl | (simp; done) | (simp [*]; done)), H', ⟨by first | omega | exact Nat.le_refl _⟩, ⟨(zb0 HB)⟩⟩
 case rest =>
  clear HC3
  try clear p2
  try clear c3
  try clear c5
  obtain ⟨kq, x13_2, rfl, HA, HJ2, HB⟩ := hcut
  cases kq with
  | zero => exact absurd HA.out (by simp [spec_ScalePoly.j0])
  | succ kj2 =>
   have H := HA.out
   clear HA
   simp only [spec_ScalePoly.j0] at H
   by_cases c9 : x13_2 = true
   ·
    subst c9
    have H1 : (some (([] : List (S51)), false)) = some (r1, r2) := by rw [if_pos rfl] at H; exact H
    clear H
    have H := H1
    clear H1
    simp only [Option.some.injEq, Prod.mk.injEq] at H
    obtain ⟨rfl, rfl⟩ := H
    go_wp2
    go_ret2
    exact ⟨_, by first | rfl | (simp [errW_none, errW_some] <;> rfl) | (simp [*, errW_none, errW_some] <;> rfl), by first | exact Kd.R_nil _ _ _ _ _ | exact Kd.N_nil _ _ _ _ _ | exact Kd.V_nil _ _ _ _ _ | exact Kd.Q_nil _ _ _ _ _ | exact Kd.S_nil _ _ _ _ _, (zb0 HB)⟩
   ·
    replace c9 := Bool.eq_false_iff.mpr c9
    subst c9
    have H1 : (if a1 = 0 then (some (([] : List (S51)), true)) else ((spec_poMul.f kj2 l0 (([(⟨a1, 0, 0, 0⟩ : S51)] : List (S51)))).bind fun bt566 => (some (bt566.1, bt566.2)))) = some (r1, r2) := by rw [if_neg (show ¬ (false = true) by decide)] at H; exact H
    clear H
    have H := H1
    clear H1
    by_cases c10 : a1 = 0
    ·
     rw [if_pos c10] at H
     have c10b0 : (a1 == 0) = true := beq_iff_eq.mpr c10
     have c10b1 : (a1 != 0) = false := bne_eq_false_iff_eq.mpr c10
     clear c10
     simp only [Option.some.injEq, Prod.mk.injEq] at H
     obtain ⟨rfl, rfl⟩ := H
     go_wp2
     go_ret2
     exact ⟨_, by first | rfl | (simp [errW_none, errW_some] <;> rfl) | (simp [*, errW_none, errW_some] <;> rfl), by first | exact Kd.R_nil _ _ _ _ _ | exact Kd.N_nil _ _ _ _ _ | exact Kd.V_nil _ _ _ _ _ | exact Kd.Q_nil _ _ _ _ _ | exact Kd.S_nil _ _ _ _ _, (zb0 HB)⟩
    ·
     rw [if_neg c10] at H
     have c10b0 : (a1 == 0) = false := beq_eq_false_iff_ne.mpr c10
     have c10b1 : (a1 != 0) = true := bne_iff_ne.mpr c10
     obtain ⟨y563, hy563⟩ : ∃ y_ : List (S51), y_ = (([(⟨a1, 0, 0, 0⟩ : S51)] : List (S51))) := ⟨_, rfl⟩
     replace H : ((spec_poMul.f kj2 l0 y563).bind fun bt566 => (some (bt566.1, bt566.2))) = some (r1, r2) := by first | (rw [hy563]; with_reducible exact H) | (have H2_ := (Option.bind_some _ _).symm.trans H; rw [hy563]; with_reducible exact H2_) | (have H2_ := (Option.bind_some _ _).symm.trans H; with_reducible exact H2_) | with_reducible exact H | (rw [hy563]; exact H) | exact H
     have Ny563 := Aside0.mk hy563
     clear hy563
     replace H := Option.bind_eq_some_iff.mp H
     obtain ⟨⟨t566, t567⟩, A110, H⟩ := H
     replace H : (some (t566, t567)) = some (r1, r2) := H
     have A11 := Aside0.mk A110
     clear A110
     simp only [Option.some.injEq, Prod.mk.injEq] at H
     obtain ⟨rfl, rfl⟩ := H
     go_wp2_with (first | ((with_reducible refine gate_dst (N := 19) rfl ?_); refine Kd.R_lit k51 _ 51 ?hg (N := 19) ?hd (xs := ([(⟨a1, 0, 0, 0⟩ : S51)] : List (S51))) (inner := [.int .i64 a1, .int .i64 0, .int .i64 0, .int .i64 0]) (ok := fun _ => True) (okp := fun _ => True) ?hr ?hp (fun _ hk => hk) trivial (Below.refl _ _) (Nat.le_refl _) (by simp) ?_; (case hd => rfl); (case hg => rfl); (case hr => first | (go_simp; done) | (go_simp; rfl)); (case hp => exact (Reps.c4 (show Kd.M k51 _ _ _ (⟨a1, 0, 0, 0⟩ : S51) [.int .i64 a1, .int .i64 0, .int .i64 0, .int .i64 0] from (k51_mkM _ _ _ (⟨a1, 0, 0, 0⟩ : S51) )) (Reps.none _ _))); intro v564 w12 ho13 hb hg_ hnew_; clear hg_ hnew_; (first | rw [← Ny563.out] at ho13 | (simp only [Int.reduceToNat] at ho13; rw [← Ny563.out] at ho13)); have HO565 := Aside0.mk (Kd.R_lower ho13 (below_size (zb0 HB))); replace HB := Aside0.mk (below_step (zb0 HB) hb); clear hb ho13; obtain ⟨Ao14, co14, eo14⟩ := Kd.R_slice HO565.out; subst eo14) | ((with_reducible refine gate_callee (f := 53) rfl ?_); refine goesL_ (some 20) rfl rfl Try.func53 (by kernel_rfl) rfl #[.slice A0 l0.length c0, .slice Ao14 y563.length co14] rfl zq6 ?_; (with_reducible refine (spec_poMul.calls kj2 _ _ l0 _ _ y563 t566 t567 _ ?side1 ?side2 ?side3 ?side4 A11.out).mono ?_); (case side1 => repeat (first | exact (Kd.C_below HR0.out HB.out) | (with_reducible refine Kd.C_alloc ?_ _) | (with_reducible refine Kd.C_drewN ?_ _) | (with_reducible refine Kd.C_drew ?_))); (case side2 => exact HC0.out); (case side3 => repeat (first | exact (Kd.R_reads' HO565.out).2.2 | (with_reducible refine Kd.C_alloc ?_ _) | (with_reducible refine Kd.C_drewN ?_ _) | (with_reducible refine Kd.C_drew ?_))); (case side4 => exact (Kd.R_reads' HO565.out).2.1); rintro e w15 ⟨v568, rfl, ho0, hb⟩; refine ⟨_, rfl, ?_⟩; have HO569 := Aside0.mk (Kd.R_lower (Kd.R_new' ho0 (Kd.R_lt (zq3 HO565))) (below_size (zb0 HB))); replace HO565 := Aside0.mk (Kd.R_elder' (zq3 HO565) (Kd.R_base ho0) hb); replace HB := Aside0.mk (below_step (zb0 HB) hb); (try clear hb); (try clear hb2); (try clear hk); (try clear hi); (try clear ho0)))
     go_ret2
     exact ⟨_, by first | rfl | (simp [errW_none, errW_some] <;> rfl) | (simp [*, errW_none, errW_some] <;> rfl), by (with_reducible repeat (first | apply Kd.R_alloc | apply Kd.R_drewN | apply Kd.R_drew)); exact Kd.R_mono HO569.out (fun _ hk => trivial), (zb0 HB)⟩
end Go.Proofs.Ythanmlojikidbaa.PD
