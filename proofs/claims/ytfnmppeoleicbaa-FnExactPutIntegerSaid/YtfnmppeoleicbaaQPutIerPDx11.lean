-- By wip/mk/drv.py
import Derived.Test.YtfnmppeoleicbaaQPutIerPDx0
import Derived.Test.YtfnmppeoleicbaaQPutIerPDx1
import Derived.Test.YtfnmppeoleicbaaQPutIerPDx2
import Derived.Test.YtfnmppeoleicbaaQPutIerPDx3
import Derived.Test.YtfnmppeoleicbaaQPutIerPDx8
import Derived.Test.YtfnmppeoleicbaaQPutIerPDx10
namespace Go.Proofs.Ytfnmppeoleicbaa.PD
open Go.RowKit Go.Proofs.YtfnmppeoleicbaaW.PrintWords Go.Proofs.YtfnmppeoleicbaaW.PrintLast Go.Proofs.YtfnmppeoleicbaaW.PrintMore
attribute [local go_sem] max2_int min2_int max_two min_two max_three min_three max_four min_four
set_option linter.unusedVariables false
set_option linter.unusedSimpArgs false
/-! ### spec_PutInteger: function 47 -/
set_option maxHeartbeats 8000000 in
set_option maxRecDepth 100000 in
theorem spec_PutInteger.calls (k : Nat) (A0 : Option Addr) (c0 : Nat) (l0 : List (S55)) (a1 : Int) (a2 : Int) (r1 : List (S55)) (r2 : Bool) (w : World) (hr0 : Kd.C k55 w A0 l0.length l0) (hc0 : l0.length ≤ c0) (h : spec_PutInteger.f k l0 a1 a2 = some (r1, r2)) :
  Calls Try.prog 47 #[.slice A0 l0.length c0, .int .i64 a1, .int .i64 a2] w fun e w' => ∃ v0_ : Value, e = .returned (.tuple #[v0_, .bool r2]) ∧ Kd.R k55 55 w' w.heap.size (fun _ => True) v0_ r1 ∧ Below w.heap.size w w' := by
 have hu55 := Try.underlying55
 have HR0 := Aside0.mk hr0
 have HC0 := Aside0.mk hc0
 clear hr0 hc0
 have HB := Aside0.mk (Below.refl w.heap.size w)
 have H : ((spec_poGood.f k l0).bind fun t213 => (if t213 = true then ((spec_poUnknown.f a1).bind fun t214 => (if t214 = true then ((spec_l1In.f a2 (-100) 100).bind fun t215 => (spec_PutInteger.j0 k l0 a1 a2 (!t215))) else (spec_PutInteger.j0 k l0 a1 a2 true))) else (spec_PutInteger.j0 k l0 a1 a2 true))) = some (r1, r2) := h
 clear h
 have HC4 := Aside0.mk H
 clear H
 go_enter Try.func47, Try.ntmps47
 go_upto_region 1 with (fail)
 go_cut [24] (fun v24 wc => ∃ (kq : Nat) (x24_3 : Bool), v24 = .bool x24_3 ∧ Aside0 (spec_PutInteger.j0 kq l0 a1 a2 x24_3 = some (r1, r2)) ∧ Aside0 (kq ≤ k) ∧ Aside0 (Below w.heap.size w wc))
 case first =>
  have H := HC4.out
  clear HC4
  replace H := Option.bind_eq_some_iff.mp H
  obtain ⟨t213, A50, H⟩ := H
  replace H : (if t213 = true then ((spec_poUnknown.f a1).bind fun t214 => (if t214 = true then ((spec_l1In.f a2 (-100) 100).bind fun t215 => (spec_PutInteger.j0 k l0 a1 a2 (!t215))) else (spec_PutInteger.j0 k l0 a1 a2 true))) else (spec_PutInteger.j0 k l0 a1 a2 true)) = some (r1, r2) := H
  have A5 := Aside0.mk A50
  clear A50
  by_cases c6 : t213 = true
  ·
   subst c6
   have H1 : ((spec_poUnknown.f a1).bind fun t214 => (if t214 = true then ((spec_l1In.f a2 (-100) 100).bind fun t215 => (spec_PutInteger.j0 k l0 a1 a2 (!t215))) else (spec_PutInteger.j0 k l0 a1 a2 true))) = some (r1, r2) := by rw [if_pos rfl] at H; exact H
   clear H
   have H := H1
   clear H1
   replace H := Option.bind_eq_some_iff.mp H
   obtain ⟨t214, A70, H⟩ := H
   replace H : (if t214 = true then ((spec_l1In.f a2 (-100) 100).bind fun t215 => (spec_PutInteger.j0 k l0 a1 a2 (!t215))) else (spec_PutInteger.j0 k l0 a1 a2 true)) = some (r1, r2) := H
   have A7 := Aside0.mk A70
   clear A70
   by_cases c8 : t214 = true
   ·
    subst c8
    have H1 : ((spec_l1In.f a2 (-100) 100).bind fun t215 => (spec_PutInteger.j0 k l0 a1 a2 (!t215))) = some (r1, r2) := by rw [if_pos rfl] at H; exact H
    clear H
    have H := H1
    clear H1
    replace H := Option.bind_eq_some_iff.mp H
    obtain ⟨t215, A90, H⟩ := H
    replace H : (spec_PutInteger.j0 k l0 a1 a2 (!t215)) = some (r1, r2) := H
    have A9 := Aside0.mk A90
    clear A90
    have H' := Aside0.mk H
    clear H
    go_wp2_with (first | ((with_reducible refine gate_callee (f := 51) rfl ?_); refine goesL_ (some 13) rfl rfl Try.func51 (by kernel_rfl) rfl #[.slice A0 l0.length c0] rfl zq6 ?_; (with_reducible refine (spec_poGood.calls k _ _ l0 true _ ?side1 ?side2 A5.out).mono ?_); (case side1 => repeat (first | exact (Kd.C_below HR0.out HB.out) | (with_reducible refine Kd.C_alloc ?_ _) | (with_reducible refine Kd.C_drewN ?_ _) | (with_reducible refine Kd.C_drew ?_))); (case side2 => exact HC0.out); rintro e w10 ⟨rfl, hb⟩; refine ⟨_, rfl, ?_⟩; replace HB := Aside0.mk (below_step (zb0 HB) hb); (try clear hb); (try clear hb2); (try clear hk); (try clear hi)) | (go_at_call 58; (with_reducible refine (spec_poUnknown.calls a1 true _ A7.out).mono ?_); rintro e w' ⟨rfl, ⟨nd, rfl⟩⟩) | (go_at_call 78; (with_reducible refine (spec_l1In.calls a2 (-100) 100 t215 _ A9.out).mono ?_); rintro e w' ⟨rfl, ⟨nd, rfl⟩⟩))
    go_meet
    case rel => exact ⟨_, (!t215), (by first | rfl | (simp; done) | (simp [*]; done)), H', ⟨by first | omega | exact Nat.le_refl _⟩, ⟨(zb0 HB)⟩⟩
   ·
    replace c8 := Bool.eq_false_iff.mpr c8
    subst c8
    have H1 : (spec_PutInteger.j0 k l0 a1 a2 true) = some (r1, r2) := by rw [if_neg (show ¬ (false = true) by decide)] at H; exact H
    clear H
    have H := H1
    clear H1
    have H' := Aside0.mk H
    clear H
    go_wp2_with (first | ((with_reducible refine gate_callee (f := 51) rfl ?_); refine goesL_ (some 13) rfl rfl Try.func51 (by kernel_rfl) rfl #[.slice A0 l0.length c0] rfl zq6 ?_; (with_reducible refine (spec_poGood.calls k _ _ l0 true _ ?side1 ?side2 A5.out).mono ?_); (case side1 => repeat (first | exact (Kd.C_below HR0.out HB.out) | (with_reducible refine Kd.C_alloc ?_ _) | (with_reducible refine Kd.C_drewN ?_ _) | (with_reducible refine Kd.C_drew ?_))); (case side2 => exact HC0.out); rintro e w11 ⟨rfl, hb⟩; refine ⟨_, rfl, ?_⟩; replace HB := Aside0.mk (below_step (zb0 HB) hb); (try clear hb); (try clear hb2); (try clear hk); (try clear hi)) | (go_at_call 58; (with_reducible refine (spec_poUnknown.calls a1 false _ A7.out).mono ?_); rintro e w' ⟨rfl, ⟨nd, rfl⟩⟩))
    go_meet
    case rel => exact ⟨_, (true), (by first | rfl | (simp; done) | (simp [*]; done)), H', ⟨by first | omega | exact Nat.le_refl _⟩, ⟨(zb0 HB)⟩⟩
  ·
   replace c6 := Bool.eq_false_iff.mpr c6
   subst c6
   have H1 : (spec_PutInteger.j0 k l0 a1 a2 true) = some (r1, r2) := by rw [if_neg (show ¬ (false = true) by decide)] at H; exact H
   clear H
   have H := H1
   clear H1
   have H' := Aside0.mk H
   clear H
   go_wp2_with (first | ((with_reducible refine gate_callee (f := 51) rfl ?_); refine goesL_ (some 13) rfl rfl Try.func51 (by kernel_rfl) rfl #[.slice A0 l0.length c0] rfl zq6 ?_; (with_reducible refine (spec_poGood.calls k _ _ l0 false _ ?side1 ?side2 A5.out).mono ?_); (case side1 => repeat (first | exact (Kd.C_below HR0.out HB.out) | (with_reducible refine Kd.C_alloc ?_ _) | (with_reducible refine Kd.C_drewN ?_ _) | (with_reducible refine Kd.C_drew ?_))); (case side2 => exact HC0.out); rintro e w12 ⟨rfl, hb⟩; refine ⟨_, rfl, ?_⟩; replace HB := Aside0.mk (below_step (zb0 HB) hb); (try clear hb); (try clear hb2); (try clear hk); (try clear hi)))
   go_meet
   case rel => exact ⟨_, (true), (by first | rfl | (simp; done) | (simp [*]; done)), H', ⟨by first | omega | exact Nat.le_refl _⟩, ⟨(zb0 HB)⟩⟩
 case rest =>
  clear HC4
  try clear p2
  try clear c4
  try clear c5
  try clear c6
  try clear c8
  obtain ⟨kq, x24_3, rfl, HA, HJ3, HB⟩ := hcut
  cases kq with
  | zero => exact absurd HA.out (by simp [spec_PutInteger.j0])
  | succ kj3 =>
   have H := HA.out
   clear HA
   simp only [spec_PutInteger.j0] at H
   by_cases c13 : x24_3 = true
   ·
    subst c13
    have H1 : (some (([] : List (S55)), false)) = some (r1, r2) := by rw [if_pos rfl] at H; exact H
    clear H
    have H := H1
    clear H1
    simp only [Option.some.injEq, Prod.mk.injEq] at H
    obtain ⟨rfl, rfl⟩ := H
    go_wp2
    go_ret2
    exact ⟨_, by first | rfl | (simp [errW_none, errW_some] <;> rfl) | (simp [*, errW_none, errW_some] <;> rfl), by first | exact Kd.R_nil _ _ _ _ _ | exact Kd.N_nil _ _ _ _ _ | exact Kd.V_nil _ _ _ _ _ | exact Kd.Q_nil _ _ _ _ _ | exact Kd.S_nil _ _ _ _ _, (zb0 HB)⟩
   ·
    replace c13 := Bool.eq_false_iff.mpr c13
    subst c13
    have H1 : (spec_PutInteger.l0 kj3 a1 a2 ([] : List (S55)) l0 (l0.length : Int) 0) = some (r1, r2) := by rw [if_neg (show ¬ (false = true) by decide)] at H; exact H
    clear H
    have H := H1
    clear H1
    have H' := Aside0.mk H
    clear H
    go_wp2
    go_loopg [8, 27] kj3 (fun kq v8 v27 w' => ∃ (x8_2 : List (S55)) (x27_2 : Int), v27 = .int .i64 x27_2 ∧ Aside0 (spec_PutInteger.l0 kq a1 a2 x8_2 l0 (l0.length : Int) x27_2 = some (r1, r2)) ∧ Aside0 (kq ≤ kj3) ∧ Aside0 (Kd.R k55 55 w' w.heap.size (fun _ => True) v8 x8_2) ∧ Aside0 (Below w.heap.size w w'))
    case atStart => exact ⟨(([] : List (S55))), (0), (by first | rfl | (simp; done) | (simp [*]; done)), H', ⟨Nat.le_refl _⟩, ⟨by first | exact Kd.R_nil _ _ _ _ _ | exact Kd.N_nil _ _ _ _ _ | exact Kd.V_nil _ _ _ _ _ | exact Kd.Q_nil _ _ _ _ _ | exact Kd.S_nil _ _ _ _ _⟩, ⟨(zb0 HB)⟩⟩
    case round =>
     clear H'
     try clear c1
     try clear p2
     try clear c4
     try clear c5
     try clear c6
     try clear c8
     try clear c13
     try clear p2
     obtain ⟨x8_2, x27_2, rfl, HA, HK2, HO_8, HB⟩ := hrel
     cases gk with
     | zero => exact absurd HA.out (by simp [spec_PutInteger.l0])
     | succ k2 =>
      have H := HA.out
      clear HA
      simp only [spec_PutInteger.l0] at H
      by_cases c14 : x27_2 < (l0.length : Int)
      ·
       rw [if_pos c14] at H
       have c14b0 : decide (x27_2 < (l0.length : Int)) = true := decide_eq_true c14
       clear c14
       by_cases c15 : 0 ≤ x27_2
       ·
        rw [if_pos c15] at H
        have c15b0 : decide (0 ≤ x27_2) = true := decide_eq_true c15
        clear c15
        by_cases c16 : x27_2 < (l0.length : Int)
        ·
         rw [if_pos c16] at H
         have c16b0 : decide (x27_2 < (l0.length : Int)) = true := decide_eq_true c16
         clear c16
         replace H := Option.bind_eq_some_iff.mp H
         obtain ⟨t222, A170, H⟩ := H
         replace H : (spec_PutInteger.l1 k2 a1 a2 x8_2 t222 l0 (l0.length : Int) x27_2 ((rd_T55 l0 x27_2).f0) ((rd_T55 l0 x27_2).f1) ((rd_T55 l0 x27_2).f2) ((rd_T55 l0 x27_2).f3)) = some (r1, r2) := H
         have A17 := Aside0.mk A170
         clear A170
         have H' := Aside0.mk H
         clear H
         have p220 : 0 ≤ (x27_2 : Int) := of_decide_eq_true (by first | (with_reducible assumption) | assumption)
         have q220 : x27_2 < (l0.length : Int) := of_decide_eq_true (by first | (with_reducible assumption) | assumption)
         obtain ⟨ad220, e220, hx220_0, hx220_1, hx220_2, hx220_3⟩ := at_T55 HR0.out x27_2 p220 q220
         cases e220
         replace hx220_0 := (HB.out.cell (World.block_lt_of_cell? w _ hx220_0)).trans hx220_0
         replace hx220_1 := (HB.out.cell (World.block_lt_of_cell? w _ hx220_1)).trans hx220_1
         replace hx220_2 := (HB.out.cell (World.block_lt_of_cell? w _ hx220_2)).trans hx220_2
         replace hx220_3 := (HB.out.cell (World.block_lt_of_cell? w _ hx220_3)).trans hx220_3
         replace p220 := eq_true p220
         replace q220 := eq_true q220
         go_wp2_with (first | ((with_reducible refine gate_dst (N := 10) rfl ?_); refine zbe (N := 10) (cs := #[.int .i64 0, .int .i64 0, .int .i64 0, .int .i64 0]) (t := 55) ?_; intro gb221 hg w18 hbox hb; have BK221 := Aside0.mk (hbox); have GW221 := Aside0.mk (zge (zb0 HB) hg); have GE221 := GW221; replace HO_8 := Aside0.mk (Kd.R_below (Kd.R_elderB (zq3 HO_8) gb221 (Nat.le_of_eq hg.symm)) hb); replace HB := Aside0.mk (below_step (zb0 HB) hb); clear hb hbox hg; have hcz19_0 : w18.cell? ⟨gb221, 0, none⟩ = some (.int .i64 0) := zc BK221 0; have hcz19_1 : w18.cell? ⟨gb221, 1, none⟩ = some (.int .i64 0) := zc BK221 1; have hcz19_2 : w18.cell? ⟨gb221, 2, none⟩ = some (.int .i64 0) := zc BK221 2; have hcz19_3 : w18.cell? ⟨gb221, 3, none⟩ = some (.int .i64 0) := zc BK221 3; have hfz19_0 := blk_frozen BK221.out 0; have hfz19_1 := blk_frozen BK221.out 1; have hfz19_2 := blk_frozen BK221.out 2; have hfz19_3 := blk_frozen BK221.out 3) | ((with_reducible refine gate_callee (f := 81) rfl ?_); refine goesL_ (some 33) rfl rfl Try.func81 (by kernel_rfl) rfl #[.agg #[.int .i64 ((rd_T55 l0 x27_2).f0), .int .i64 ((rd_T55 l0 x27_2).f1), .int .i64 ((rd_T55 l0 x27_2).f2), .int .i64 ((rd_T55 l0 x27_2).f3)], .int .i64 a1] rfl zq6 ?_; (with_reducible refine (spec_poPower.calls ((rd_T55 l0 x27_2).f0) ((rd_T55 l0 x27_2).f1) ((rd_T55 l0 x27_2).f2) ((rd_T55 l0 x27_2).f3) a1 t222 _ A17.out).mono ?_); rintro e w20 ⟨rfl, hb⟩; refine ⟨_, rfl, ?_⟩; replace HO_8 := Aside0.mk (Kd.R_below (by (with_reducible repeat (first | apply Kd.R_alloc | apply Kd.R_drewN | apply Kd.R_drew)); exact (Kd.R_mono (Kd.R_far (p := ⟨gb221, 3, none⟩) (Kd.R_far (p := ⟨gb221, 2, none⟩) (Kd.R_far (p := ⟨gb221, 1, none⟩) (Kd.R_far (p := ⟨gb221, 0, none⟩) (Kd.R_mono HO_8.out (fun k_ hk => (⟨hk, hk.2⟩ : _ ∧ k_ ≠ gb221))) (fun _ hk => hk.2) (.int .i64 ((rd_T55 l0 x27_2).f0))) (fun _ hk => hk.2) (.int .i64 ((rd_T55 l0 x27_2).f1))) (fun _ hk => hk.2) (.int .i64 ((rd_T55 l0 x27_2).f2))) (fun _ hk => hk.2) (.int .i64 ((rd_T55 l0 x27_2).f3))) (fun _ h_ => h_.1))) hb); replace BK221 := Aside0.mk (blk_below (g := gb221) (o := .cells #[.int .i64 ((rd_T55 l0 x27_2).f0), .int .i64 ((rd_T55 l0 x27_2).f1), .int .i64 ((rd_T55 l0 x27_2).f2), .int .i64 ((rd_T55 l0 x27_2).f3)] 55 (0, 0)) (by (with_reducible repeat (first | refine blk_drewN ?_ _ | refine blk_drew ?_ | refine blk_alloc ?_ _)); refine blk_put (cs := #[.int .i64 ((rd_T55 l0 x27_2).f0), .int .i64 ((rd_T55 l0 x27_2).f1), .int .i64 ((rd_T55 l0 x27_2).f2), .int .i64 0]) ?_ 3 _ rfl; (with_reducible repeat (first | refine blk_drewN ?_ _ | refine blk_drew ?_ | refine blk_alloc ?_ _)); refine blk_put (cs := #[.int .i64 ((rd_T55 l0 x27_2).f0), .int .i64 ((rd_T55 l0 x27_2).f1), .int .i64 0, .int .i64 0]) ?_ 2 _ rfl; (with_reducible repeat (first | refine blk_drewN ?_ _ | refine blk_drew ?_ | refine blk_alloc ?_ _)); refine blk_put (cs := #[.int .i64 ((rd_T55 l0 x27_2).f0), .int .i64 0, .int .i64 0, .int .i64 0]) ?_ 1 _ rfl; (with_reducible repeat (first | refine blk_drewN ?_ _ | refine blk_drew ?_ | refine blk_alloc ?_ _)); refine blk_put (cs := #[.int .i64 0, .int .i64 0, .int .i64 0, .int .i64 0]) ?_ 0 _ rfl; (with_reducible repeat (first | refine blk_drewN ?_ _ | refine blk_drew ?_ | refine blk_alloc ?_ _)); exact BK221.out) hb); replace HB := Aside0.mk (below_step (zb1 HB) hb); (try clear hb); (try clear hb2); (try clear hk); (try clear hi)))
         go_loopg [11] k2 (fun kq v11 w' => ∃ (x11_3 : Int) (x222000_3 : Int), v11 = .int .i64 x11_3 ∧ Aside0 (spec_PutInteger.l1 kq a1 a2 x8_2 x11_3 l0 (l0.length : Int) x27_2 x222000_3 ((rd_T55 l0 x27_2).f1) ((rd_T55 l0 x27_2).f2) ((rd_T55 l0 x27_2).f3) = some (r1, r2)) ∧ Aside0 (kq ≤ k2) ∧ Aside0 (Kd.R k55 55 w' w.heap.size (fun k_ => k_ ≠ gb221) u8 x8_2) ∧ Aside0 (w'.heap[gb221]? = some (.cells #[.int .i64 x222000_3, .int .i64 ((rd_T55 l0 x27_2).f1), .int .i64 ((rd_T55 l0 x27_2).f2), .int .i64 ((rd_T55 l0 x27_2).f3)] 55 (0, 0))) ∧ Aside0 (Below w.heap.size w w'))
         case atStart => exact ⟨(t222), ((rd_T55 l0 x27_2).f0), (by first | rfl | (simp; done) | (simp [*]; done)), H', ⟨Nat.le_refl _⟩, ⟨by (with_reducible repeat (first | apply Kd.R_alloc | apply Kd.R_drewN | apply Kd.R_drew)); exact Kd.R_mono HO_8.out (fun _ hk => hk.2)⟩, ⟨by (with_reducible repeat (first | refine blk_drewN ?_ _ | refine blk_drew ?_ | refine blk_alloc ?_ _)); exact BK221.out⟩, ⟨(zb1 HB)⟩⟩
         case round =>
          clear H'
          try clear c1
          try clear p2
          try clear q2
          try clear hx2
          try clear c4
          try clear c5
          try clear c6
          try clear c8
          try clear c13
          try clear c14
          try clear c14b0
          try clear c15
          try clear c15b0
          try clear c16
          try clear c16b0
          try clear hcz19_0
          try clear hcz19_1
          try clear hcz19_2
          try clear hcz19_3
          try clear hfz19_0
          try clear hfz19_1
          try clear hfz19_2
          try clear hfz19_3
          try clear hx220_0
          try clear hx220_1
          try clear hx220_2
          try clear hx220_3
          try clear p2
          try clear p220
          try clear q220
          obtain ⟨x11_3, x222000_3, rfl, HA, HK3, HO_8, BK221, HB⟩ := hrel
          cases gk with
          | zero => exact absurd HA.out (by simp [spec_PutInteger.l1])
          | succ k3 =>
           have H := HA.out
           clear HA
           simp only [spec_PutInteger.l1] at H
           by_cases c21 : x11_3 > 0
           ·
            rw [if_pos c21] at H
            have c21b0 : decide (0 < x11_3) = true := decide_eq_true c21
            clear c21
            have H' := Aside0.mk H
            clear H
            have hcz22_0 : wr.cell? ⟨gb221, 0, none⟩ = some (.int .i64 x222000_3) := zc BK221 0
            have hcz22_1 : wr.cell? ⟨gb221, 1, none⟩ = some (.int .i64 ((rd_T55 l0 x27_2).f1)) := zc BK221 1
            have hcz22_2 : wr.cell? ⟨gb221, 2, none⟩ = some (.int .i64 ((rd_T55 l0 x27_2).f2)) := zc BK221 2
            have hcz22_3 : wr.cell? ⟨gb221, 3, none⟩ = some (.int .i64 ((rd_T55 l0 x27_2).f3)) := zc BK221 3
            have hfz22_0 := blk_frozen BK221.out 0
            have hfz22_1 := blk_frozen BK221.out 1
            have hfz22_2 := blk_frozen BK221.out 2
            have hfz22_3 := blk_frozen BK221.out 3
            go_wp2
            go_roundg k3
            case measure => have := HJ3.out; have := HK2.out; have := HK3.out; omega
            case rel => exact ⟨(wrap64 (x11_3 - 1)), (wrap64 (x222000_3 * a2)), (by first | rfl | (simp; done) | (simp [*]; done)), H', ⟨by have := HJ3.out; have := HK2.out; have := HK3.out; omega⟩, ⟨by (with_reducible repeat (first | apply Kd.R_alloc | apply Kd.R_drewN | apply Kd.R_drew)); exact Kd.R_mono (Kd.R_far (p := ⟨gb221, 0, none⟩) (Kd.R_mono HO_8.out (fun k_ hk => (⟨hk, hk⟩ : _ ∧ k_ ≠ gb221))) (fun _ hk => hk.2) (.int .i64 (wrap64 (x222000_3 * a2)))) (fun _ hk => hk.1)⟩, ⟨by (with_reducible repeat (first | refine blk_drewN ?_ _ | refine blk_drew ?_ | refine blk_alloc ?_ _)); refine blk_put (cs := #[.int .i64 x222000_3, .int .i64 ((rd_T55 l0 x27_2).f1), .int .i64 ((rd_T55 l0 x27_2).f2), .int .i64 ((rd_T55 l0 x27_2).f3)]) ?_ 0 _ rfl; (with_reducible repeat (first | refine blk_drewN ?_ _ | refine blk_drew ?_ | refine blk_alloc ?_ _)); exact BK221.out⟩, ⟨(zb1 HB)⟩⟩
           ·
            rw [if_neg c21] at H
            have c21b0 : decide (0 < x11_3) = false := decide_eq_false c21
            clear c21
            replace H := Option.bind_eq_some_iff.mp H
            obtain ⟨⟨t223, t224, t225, t226⟩, A230, H⟩ := H
            replace H : (if x8_2.length < 4398046511104 then (spec_PutInteger.l0 k3 a1 a2 (x8_2 ++ [(⟨t223, t224, t225, t226⟩ : S55)]) l0 (l0.length : Int) (wrap64 (x27_2 + 1))) else (none)) = some (r1, r2) := H
            have A23 := Aside0.mk A230
            clear A230
            by_cases c24 : x8_2.length < 4398046511104
            ·
             rw [if_pos c24] at H
             have LMc24 := Aside0.mk c24
             clear c24
             obtain ⟨y227, hy227⟩ : ∃ y_ : List (S55), y_ = (x8_2 ++ [(⟨t223, t224, t225, t226⟩ : S55)]) := ⟨_, rfl⟩
             replace H : (spec_PutInteger.l0 k3 a1 a2 y227 l0 (l0.length : Int) (wrap64 (x27_2 + 1))) = some (r1, r2) := by first | (rw [hy227]; with_reducible exact H) | (have H2_ := (Option.bind_some _ _).symm.trans H; rw [hy227]; with_reducible exact H2_) | (have H2_ := (Option.bind_some _ _).symm.trans H; with_reducible exact H2_) | with_reducible exact H | (rw [hy227]; exact H) | exact H
             have Ny227 := Aside0.mk hy227
             clear hy227
             have H' := Aside0.mk H
             clear H
             have hcz25_0 : wr.cell? ⟨gb221, 0, none⟩ = some (.int .i64 x222000_3) := zc BK221 0
             have hcz25_1 : wr.cell? ⟨gb221, 1, none⟩ = some (.int .i64 ((rd_T55 l0 x27_2).f1)) := zc BK221 1
             have hcz25_2 : wr.cell? ⟨gb221, 2, none⟩ = some (.int .i64 ((rd_T55 l0 x27_2).f2)) := zc BK221 2
             have hcz25_3 : wr.cell? ⟨gb221, 3, none⟩ = some (.int .i64 ((rd_T55 l0 x27_2).f3)) := zc BK221 3
             have hfz25_0 := blk_frozen BK221.out 0
             have hfz25_1 := blk_frozen BK221.out 1
             have hfz25_2 := blk_frozen BK221.out 2
             have hfz25_3 := blk_frozen BK221.out 3
             go_wp2_with (first | ((with_reducible refine gate_callee (f := 82) rfl ?_); refine goesL_ (some 46) rfl rfl Try.func82 (by kernel_rfl) rfl #[.agg #[.int .i64 x222000_3, .int .i64 ((rd_T55 l0 x27_2).f1), .int .i64 ((rd_T55 l0 x27_2).f2), .int .i64 ((rd_T55 l0 x27_2).f3)], .int .i64 a1, .int .i64 0] rfl zq6 ?_; (with_reducible refine (spec_poWith.calls x222000_3 ((rd_T55 l0 x27_2).f1) ((rd_T55 l0 x27_2).f2) ((rd_T55 l0 x27_2).f3) a1 0 t223 t224 t225 t226 _ A23.out).mono ?_); rintro e w26 ⟨rfl, hb⟩; refine ⟨_, rfl, ?_⟩; replace HO_8 := Aside0.mk (Kd.R_below (zq3 HO_8) hb); replace BK221 := Aside0.mk (zbb BK221 hb); replace HB := Aside0.mk (below_step (zb1 HB) hb); (try clear hb); (try clear hb2); (try clear hk); (try clear hi)) | ((with_reducible refine gate_builtin (b := .append) (xs := #[.tmp 43, .tmp 47]) rfl ?_); at_builtin; refine Kd.R_append k55 (w0 := w) w.heap.size rfl (.tmp 43) (.tmp 47) 25 55 (.agg #[(.int .i64 0), (.int .i64 0), (.int .i64 0), (.int .i64 0)]) 32 rfl Try.underlying25 info55 rfl (by decide) (by omega) u8 x8_2 (⟨t223, t224, t225, t226⟩ : S55) [.int .i64 t223, .int .i64 t224, .int .i64 t225, .int .i64 t226] (fun k_ => k_ ≠ gb221) (fun _ => False) rfl rfl ?aP (fun _ hk => hk.elim) ?aF ?aO ?aB ?aS ?aL ?_; (case aP => exact k55_mkM _ _ _ (⟨t223, t224, t225, t226⟩ : S55)); (case aB => exact (zb1 HB)); (case aF => exact (fun k_ hk => Kd.freshB (g := gb221) (o := .cells #[.int .i64 x222000_3, .int .i64 ((rd_T55 l0 x27_2).f1), .int .i64 ((rd_T55 l0 x27_2).f2), .int .i64 ((rd_T55 l0 x27_2).f3)] 55 (0, 0)) (zq1 BK221) k_ hk)); (case aO => exact (zq3 HO_8)); (case aS => exact (below_size (zb1 HB))); (case aL => have := LMc24.out; omega); intro v228 w27 ho hb hg hat; rw [← Ny227.out] at ho; have HO229 := Aside0.mk (ho); replace BK221 := Aside0.mk (blk_grown (g := gb221) (o := .cells #[.int .i64 x222000_3, .int .i64 ((rd_T55 l0 x27_2).f1), .int .i64 ((rd_T55 l0 x27_2).f2), .int .i64 ((rd_T55 l0 x27_2).f3)] 55 (0, 0)) (zq1 BK221) hg (Kd.R_away HO_8.out (fun _ hk => hk))); replace HB := Aside0.mk (hb); clear HO_8; clear ho hb hg hat))
             go_roundg k3
             case measure => have := HJ3.out; have := HK2.out; have := HK3.out; omega
             case rel => exact ⟨(y227), (wrap64 (x27_2 + 1)), (by first | rfl | (simp; done) | (simp [*]; done)), H', ⟨by have := HJ3.out; have := HK2.out; have := HK3.out; omega⟩, ⟨by (with_reducible repeat (first | apply Kd.R_alloc | apply Kd.R_drewN | apply Kd.R_drew)); exact Kd.R_mono HO229.out (fun _ hk => trivial)⟩, ⟨(zb1 HB)⟩⟩
            ·
             rw [if_neg c24] at H
             exact absurd H (by simp)
        ·
         rw [if_neg c16] at H
         exact absurd H (by simp)
       ·
        rw [if_neg c15] at H
        exact absurd H (by simp)
      ·
       rw [if_neg c14] at H
       have c14b0 : decide (x27_2 < (l0.length : Int)) = false := decide_eq_false c14
       clear c14
       replace H := Option.bind_eq_some_iff.mp H
       obtain ⟨⟨t216, t217⟩, A280, H⟩ := H
       replace H : (some (t216, t217)) = some (r1, r2) := H
       have A28 := Aside0.mk A280
       clear A280
       simp only [Option.some.injEq, Prod.mk.injEq] at H
       obtain ⟨rfl, rfl⟩ := H
       obtain ⟨Ao29, co29, eo29⟩ := Kd.R_slice HO_8.out
       subst eo29
       go_wp2_with (first | ((with_reducible refine gate_callee (f := 71) rfl ?_); refine goesL_ (some 51) rfl rfl Try.func71 (by kernel_rfl) rfl #[.slice Ao29 x8_2.length co29] rfl zq6 ?_; (with_reducible refine (spec_poSum.calls k2 _ _ x8_2 t216 t217 _ ?side1 ?side2 A28.out).mono ?_); (case side1 => repeat (first | exact (Kd.R_reads' HO_8.out).2.2 | (with_reducible refine Kd.C_alloc ?_ _) | (with_reducible refine Kd.C_drewN ?_ _) | (with_reducible refine Kd.C_drew ?_))); (case side2 => exact (Kd.R_reads' HO_8.out).2.1); rintro e w30 ⟨v218, rfl, ho0, hb⟩; refine ⟨_, rfl, ?_⟩; have HO219 := Aside0.mk (Kd.R_lower (Kd.R_new' ho0 (Kd.R_lt (zq3 HO_8))) (below_size (zb0 HB))); replace HO_8 := Aside0.mk (Kd.R_elder' (zq3 HO_8) (Kd.R_base ho0) hb); replace HB := Aside0.mk (below_step (zb0 HB) hb); (try clear hb); (try clear hb2); (try clear hk); (try clear hi); (try clear ho0)))
       go_ret2
       exact ⟨_, by first | rfl | (simp [errW_none, errW_some] <;> rfl) | (simp [*, errW_none, errW_some] <;> rfl), by (with_reducible repeat (first | apply Kd.R_alloc | apply Kd.R_drewN | apply Kd.R_drew)); exact Kd.R_mono HO219.out (fun _ hk => trivial), (zb0 HB)⟩
end Go.Proofs.Ytfnmppeoleicbaa.PD
