-- By wip/mk/drv.py
import Derived.Test.YtinpcalgdiigiaaQDivilsPDx0
import Derived.Test.YtinpcalgdiigiaaQDivilsPDx1
import Derived.Test.YtinpcalgdiigiaaQDivilsPDx3
import Derived.Test.YtinpcalgdiigiaaQDivilsPDx22
import Derived.Test.YtinpcalgdiigiaaQDivilsPDx78
namespace Go.Proofs.Ytinpcalgdiigiaa.PD
open Go.RowKit Go.Proofs.YtinpcalgdiigiaaW.PrintWords Go.Proofs.YtinpcalgdiigiaaW.PrintLast Go.Proofs.YtinpcalgdiigiaaW.PrintMore
attribute [local go_sem] max2_int min2_int max_two min_two max_three min_three max_four min_four
set_option linter.unusedVariables false
set_option linter.unusedSimpArgs false
/-! ### spec_ivDiv: function 73 -/
def spec_ivDiv.T9 : Bool × List (List Nat × List Nat) := (true, [([], []), ([0], [0]), ([], []), ([1, 2, 1], [1, 2]), ([3], [3]), ([4], [4]), ([4], [4]), ([], []), ([7, 5, 3, 0, 1, 2, 3, 4, 5, 7], [5, 7]), ([6, 8, 0, 1, 2, 3, 4, 5, 6, 7, 8], [6])])
def spec_ivDiv.B9 : List Nat := [0, 1, 0, 7, 15, 31, 31, 0, 191, 511]
theorem spec_ivDiv.tab9 : rtab .any (opsOf Try.f73 9) = spec_ivDiv.T9 := by kernel_rfl
theorem spec_ivDiv.bits9 : waitsOk spec_ivDiv.T9.2 spec_ivDiv.B9 = true := by kernel_rfl
set_option maxHeartbeats 8000000 in
set_option maxRecDepth 100000 in
theorem spec_ivDiv.calls (k : Nat) (a0_0 : Int) (a0_1 : Int) (a0_2 : Int) (a0_3 : Int) (a1_0 : Int) (a1_1 : Int) (a1_2 : Int) (a1_3 : Int) (r1 : Int) (r2 : Int) (r3 : Int) (r4 : Int) (r5 : Bool) (w : World) (h : spec_ivDiv.f k a0_0 a0_1 a0_2 a0_3 a1_0 a1_1 a1_2 a1_3 = some (r1, r2, r3, r4, r5)) :
  Calls Try.prog 73 #[.agg #[.int .i64 a0_0, .int .i64 a0_1, .int .i64 a0_2, .int .i64 a0_3], .agg #[.int .i64 a1_0, .int .i64 a1_1, .int .i64 a1_2, .int .i64 a1_3]] w fun e w' => e = .returned (.tuple #[.agg #[.int .i64 r1, .int .i64 r2, .int .i64 r3, .int .i64 r4], .bool r5]) ∧ Below w.heap.size w w' := by
 have hu29 := Try.underlying29
 have hu27 := Try.underlying27
 have HB := Aside0.mk (Below.refl w.heap.size w)
 have H : ((some (([(⟨a0_0, a0_1⟩ : S27), (⟨a0_2, a0_3⟩ : S27)] : List (S27)) : List (S27))).bind fun y1095 => (spec_ivDiv.l0 k ([] : List (S27)) ([] : List (S27)) y1095 (y1095.length : Int) 0 a1_0 a1_1 a1_2 a1_3)) = some (r1, r2, r3, r4, r5) := h
 clear h
 obtain ⟨y1095, hy1095⟩ : ∃ y_ : List (S27), y_ = (([(⟨a0_0, a0_1⟩ : S27), (⟨a0_2, a0_3⟩ : S27)] : List (S27))) := ⟨_, rfl⟩
 replace H : (spec_ivDiv.l0 k ([] : List (S27)) ([] : List (S27)) y1095 (y1095.length : Int) 0 a1_0 a1_1 a1_2 a1_3) = some (r1, r2, r3, r4, r5) := by first | (rw [hy1095]; with_reducible exact H) | (have H2_ := (Option.bind_some _ _).symm.trans H; rw [hy1095]; with_reducible exact H2_) | (have H2_ := (Option.bind_some _ _).symm.trans H; with_reducible exact H2_) | with_reducible exact H | (rw [hy1095]; exact H) | exact H
 have Ny1095 := Aside0.mk hy1095
 clear hy1095
 have H' := Aside0.mk H
 clear H
 go_enter Try.func73, Try.ntmps73
 go_wp2_with (first | ((with_reducible refine gate_dst (N := 2) rfl ?_); refine zbe (N := 2) (cs := #[.int .i64 a0_0, .int .i64 a0_1, .int .i64 a0_2, .int .i64 a0_3]) (t := 29) ?_; intro gb1092 hg w3 hbox hb; have BK1092 := Aside0.mk (hbox); have GW1092 := Aside0.mk (zge (zb0 HB) hg); have GE1092 := GW1092; replace HB := Aside0.mk (below_step (zb0 HB) hb); clear hb hbox hg) | ((with_reducible refine gate_dst (N := 3) rfl ?_); refine zbe (N := 3) (cs := #[.int .i64 a1_0, .int .i64 a1_1, .int .i64 a1_2, .int .i64 a1_3]) (t := 29) ?_; intro gb1093 hg w4 hbox hb; have BK1093 := Aside0.mk (hbox); have GW1093 := Aside0.mk (zge (zb1 HB) hg); have GE1093 := GW1093; have NB1092_1093 := Aside0.mk (zlt BK1092 hg); have NB1093_1092 := Aside0.mk (zgt BK1092 hg); replace BK1092 := Aside0.mk (zbb BK1092 hb); replace HB := Aside0.mk (below_step (zb1 HB) hb); clear hb hbox hg) | ((with_reducible refine gate_dst (N := 4) rfl ?_); refine zbe (N := 4) (cs := #[.int .i64 0, .int .i64 0, .int .i64 0, .int .i64 0]) (t := 29) ?_; intro gb1094 hg w5 hbox hb; have BK1094 := Aside0.mk (hbox); have GW1094 := Aside0.mk (zge (zb1 HB) hg); have GE1094 := GW1094; have NB1092_1094 := Aside0.mk (zlt BK1092 hg); have NB1094_1092 := Aside0.mk (zgt BK1092 hg); have NB1093_1094 := Aside0.mk (zlt BK1093 hg); have NB1094_1093 := Aside0.mk (zgt BK1093 hg); replace BK1092 := Aside0.mk (zbb BK1092 hb); replace BK1093 := Aside0.mk (zbb BK1093 hb); replace HB := Aside0.mk (below_step (zb1 HB) hb); clear hb hbox hg; have hnb6 := NB1092_1093.out; have hnc6 := NB1093_1092.out; have hnb7 := NB1092_1094.out; have hnc7 := NB1094_1092.out; have hcz8_0 : w5.cell? ⟨gb1092, 0, none⟩ = some (.int .i64 a0_0) := zc BK1092 0; have hcz8_1 : w5.cell? ⟨gb1092, 1, none⟩ = some (.int .i64 a0_1) := zc BK1092 1; have hcz8_2 : w5.cell? ⟨gb1092, 2, none⟩ = some (.int .i64 a0_2) := zc BK1092 2; have hcz8_3 : w5.cell? ⟨gb1092, 3, none⟩ = some (.int .i64 a0_3) := zc BK1092 3; have hfz8_0 := blk_frozen BK1092.out 0; have hfz8_1 := blk_frozen BK1092.out 1; have hfz8_2 := blk_frozen BK1092.out 2; have hfz8_3 := blk_frozen BK1092.out 3) | ((with_reducible refine gate_dst (N := 20) rfl ?_); refine Kd.R_lit k27 _ 27 ?hg (N := 20) ?hd (xs := ([(⟨a0_0, a0_1⟩ : S27), (⟨a0_2, a0_3⟩ : S27)] : List (S27))) (inner := [.int .i64 a0_0, .int .i64 a0_1, .int .i64 a0_2, .int .i64 a0_3]) (ok := fun _ => True) (okp := fun _ => True) ?hr ?hp (fun _ hk => hk) trivial (Below.refl _ _) (Nat.le_refl _) (by simp) ?_; (case hd => rfl); (case hg => rfl); (case hr => first | (go_simp; done) | (go_simp; rfl)); (case hp => exact (Reps.c2 (show Kd.M k27 _ _ _ (⟨a0_0, a0_1⟩ : S27) [.int .i64 a0_0, .int .i64 a0_1] from (k27_mkM _ _ _ (⟨a0_0, a0_1⟩ : S27) )) (Reps.c2 (show Kd.M k27 _ _ _ (⟨a0_2, a0_3⟩ : S27) [.int .i64 a0_2, .int .i64 a0_3] from (k27_mkM _ _ _ (⟨a0_2, a0_3⟩ : S27) )) (Reps.none _ _)))); intro v1096 w9 ho10 hb hg_ hnew_; clear hg_ hnew_; (first | rw [← Ny1095.out] at ho10 | (simp only [Int.reduceToNat] at ho10; rw [← Ny1095.out] at ho10)); have HO1097 := Aside0.mk (Kd.R_lower ho10 (below_size (zb1 HB))); replace BK1092 := Aside0.mk (zbb BK1092 hb); replace BK1093 := Aside0.mk (zbb BK1093 hb); replace BK1094 := Aside0.mk (zbb BK1094 hb); replace HB := Aside0.mk (below_step (zb1 HB) hb); clear hb ho10; obtain ⟨Ao11, co11, eo11⟩ := Kd.R_slice HO1097.out; subst eo11))
 go_loopg [6, 7, 22] k (fun kq v6 v7 v22 w' => ∃ (x6_1 : List (S27)) (x7_1 : List (S27)) (x22_1 : Int) (x1095000_1 : Int) (x1095001_1 : Int) (x1095002_1 : Int) (x1095003_1 : Int), v22 = .int .i64 x22_1 ∧ Aside0 (spec_ivDiv.l0 kq x6_1 x7_1 y1095 (y1095.length : Int) x22_1 a1_0 a1_1 a1_2 a1_3 = some (r1, r2, r3, r4, r5)) ∧ Aside0 (kq ≤ k) ∧ Aside0 (Kd.R k27 27 w' w.heap.size (fun k_ => some k_ ≠ (v7 : Value).ownBlock ∧ some k_ ≠ ((.slice Ao11 y1095.length co11) : Value).ownBlock) v6 x6_1) ∧ Aside0 (Kd.R k27 27 w' w.heap.size (fun k_ => some k_ ≠ (v6 : Value).ownBlock ∧ some k_ ≠ ((.slice Ao11 y1095.length co11) : Value).ownBlock) v7 x7_1) ∧ Aside0 (Kd.R k27 27 w' w.heap.size (fun k_ => some k_ ≠ (v6 : Value).ownBlock ∧ some k_ ≠ (v7 : Value).ownBlock) (.slice Ao11 y1095.length co11) y1095) ∧ Aside0 (w'.heap[gb1092]? = some (.cells #[.int .i64 a0_0, .int .i64 a0_1, .int .i64 a0_2, .int .i64 a0_3] 29 (0, 0))) ∧ Aside0 (w'.heap[gb1093]? = some (.cells #[.int .i64 a1_0, .int .i64 a1_1, .int .i64 a1_2, .int .i64 a1_3] 29 (0, 0))) ∧ Aside0 (w'.heap[gb1094]? = some (.cells #[.int .i64 x1095000_1, .int .i64 x1095001_1, .int .i64 x1095002_1, .int .i64 x1095003_1] 29 (0, 0))) ∧ Aside0 (Below w.heap.size w w'))
 case atStart => exact ⟨(([] : List (S27))), (([] : List (S27))), (0), (0), (0), (0), (0), (by first | rfl | (simp; done) | (simp [*]; done)), H', ⟨Nat.le_refl _⟩, ⟨by first | exact Kd.R_nil _ _ _ _ _ | exact Kd.N_nil _ _ _ _ _ | exact Kd.V_nil _ _ _ _ _ | exact Kd.Q_nil _ _ _ _ _ | exact Kd.S_nil _ _ _ _ _⟩, ⟨by first | exact Kd.R_nil _ _ _ _ _ | exact Kd.N_nil _ _ _ _ _ | exact Kd.V_nil _ _ _ _ _ | exact Kd.Q_nil _ _ _ _ _ | exact Kd.S_nil _ _ _ _ _⟩, ⟨by (with_reducible repeat (first | apply Kd.R_alloc | apply Kd.R_drewN | apply Kd.R_drew)); exact Kd.R_mono HO1097.out (fun _ hk => ⟨(by simp [Value.ownBlock]), (by simp [Value.ownBlock])⟩)⟩, ⟨by (with_reducible repeat (first | refine blk_drewN ?_ _ | refine blk_drew ?_ | refine blk_alloc ?_ _)); exact BK1092.out⟩, ⟨by (with_reducible repeat (first | refine blk_drewN ?_ _ | refine blk_drew ?_ | refine blk_alloc ?_ _)); exact BK1093.out⟩, ⟨by (with_reducible repeat (first | refine blk_drewN ?_ _ | refine blk_drew ?_ | refine blk_alloc ?_ _)); exact BK1094.out⟩, ⟨(zb1 HB)⟩⟩
 case round =>
  clear H'
  try clear c2
  try clear p2
  try clear c6
  try clear c7
  try clear hcz8_0
  try clear hcz8_1
  try clear hcz8_2
  try clear hcz8_3
  try clear hfz8_0
  try clear hfz8_1
  try clear hfz8_2
  try clear hfz8_3
  obtain ⟨x6_1, x7_1, x22_1, x1095000_1, x1095001_1, x1095002_1, x1095003_1, rfl, HA, HK1, HO_6, HO_7, HO_20, BK1092, BK1093, BK1094, HB⟩ := hrel
  cases gk with
  | zero => exact absurd HA.out (by simp [spec_ivDiv.l0])
  | succ k1 =>
   have H := HA.out
   clear HA
   simp only [spec_ivDiv.l0] at H
   by_cases c12 : x22_1 < (y1095.length : Int)
   ·
    rw [if_pos c12] at H
    have c12b0 : decide (x22_1 < (y1095.length : Int)) = true := decide_eq_true c12
    clear c12
    by_cases c13 : 0 ≤ x22_1
    ·
     rw [if_pos c13] at H
     have c13b0 : decide (0 ≤ x22_1) = true := decide_eq_true c13
     clear c13
     by_cases c14 : x22_1 < (y1095.length : Int)
     ·
      rw [if_pos c14] at H
      have c14b0 : decide (x22_1 < (y1095.length : Int)) = true := decide_eq_true c14
      clear c14
      obtain ⟨y1108, hy1108⟩ : ∃ y_ : List (S27), y_ = (([(⟨a1_0, a1_1⟩ : S27), (⟨a1_2, a1_3⟩ : S27)] : List (S27))) := ⟨_, rfl⟩
      replace H : (spec_ivDiv.l1 k1 x6_1 x7_1 y1095 (y1095.length : Int) x22_1 y1108 (y1108.length : Int) 0 a1_0 a1_1 a1_2 a1_3 ((rd_T27 y1095 x22_1).f0) ((rd_T27 y1095 x22_1).f1)) = some (r1, r2, r3, r4, r5) := by first | (rw [hy1108]; with_reducible exact H) | (have H2_ := (Option.bind_some _ _).symm.trans H; rw [hy1108]; with_reducible exact H2_) | (have H2_ := (Option.bind_some _ _).symm.trans H; with_reducible exact H2_) | with_reducible exact H | (rw [hy1108]; exact H) | exact H
      have Ny1108 := Aside0.mk hy1108
      clear hy1108
      have H' := Aside0.mk H
      clear H
      have p1106 : 0 ≤ (x22_1 : Int) := of_decide_eq_true (by first | (with_reducible assumption) | assumption)
      have q1106 : x22_1 < (y1095.length : Int) := of_decide_eq_true (by first | (with_reducible assumption) | assumption)
      obtain ⟨ad1106, e1106, hx1106_0, hx1106_1⟩ := at_T27 (Kd.R_reads' HO_20.out).2.2 x22_1 p1106 q1106
      cases e1106
      replace p1106 := eq_true p1106
      replace q1106 := eq_true q1106
      go_wp2_with (first | ((with_reducible refine gate_dst (N := 9) rfl ?_); refine zbe (N := 9) (cs := #[.int .i64 0, .int .i64 0]) (t := 27) ?_; intro gb1107 hg w15 hbox hb; have BK1107 := Aside0.mk (hbox); have GW1107 := Aside0.mk (zge (zb1 HB) hg); have GE1107 := GW1107; have NB1092_1107 := Aside0.mk (zlt BK1092 hg); have NB1107_1092 := Aside0.mk (zgt BK1092 hg); have NB1093_1107 := Aside0.mk (zlt BK1093 hg); have NB1107_1093 := Aside0.mk (zgt BK1093 hg); have NB1094_1107 := Aside0.mk (zlt BK1094 hg); have NB1107_1094 := Aside0.mk (zgt BK1094 hg); replace HO_6 := Aside0.mk (Kd.R_below (Kd.R_elderB (zq3 HO_6) gb1107 (Nat.le_of_eq hg.symm)) hb); replace HO_7 := Aside0.mk (Kd.R_below (Kd.R_elderB (zq3 HO_7) gb1107 (Nat.le_of_eq hg.symm)) hb); replace HO_20 := Aside0.mk (Kd.R_below (Kd.R_elderB (zq3 HO_20) gb1107 (Nat.le_of_eq hg.symm)) hb); replace BK1092 := Aside0.mk (zbb BK1092 hb); replace BK1093 := Aside0.mk (zbb BK1093 hb); replace BK1094 := Aside0.mk (zbb BK1094 hb); replace HB := Aside0.mk (below_step (zb1 HB) hb); clear hb hbox hg; have hnb16 := NB1107_1092.out; have hnc16 := NB1092_1107.out; have hnb17 := NB1107_1093.out; have hnc17 := NB1093_1107.out; have hnb18 := NB1107_1094.out; have hnc18 := NB1094_1107.out; have hcz19_0 : w15.cell? ⟨gb1107, 0, none⟩ = some (.int .i64 0) := zc BK1107 0; have hcz19_1 : w15.cell? ⟨gb1107, 1, none⟩ = some (.int .i64 0) := zc BK1107 1; have hfz19_0 := blk_frozen BK1107.out 0; have hfz19_1 := blk_frozen BK1107.out 1; have hnb20 := NB1093_1092.out; have hnc20 := NB1092_1093.out; have hnb21 := NB1093_1094.out; have hnc21 := NB1094_1093.out; have hcz22_0 : w15.cell? ⟨gb1093, 0, none⟩ = some (.int .i64 a1_0) := zc BK1093 0; have hcz22_1 : w15.cell? ⟨gb1093, 1, none⟩ = some (.int .i64 a1_1) := zc BK1093 1; have hcz22_2 : w15.cell? ⟨gb1093, 2, none⟩ = some (.int .i64 a1_2) := zc BK1093 2; have hcz22_3 : w15.cell? ⟨gb1093, 3, none⟩ = some (.int .i64 a1_3) := zc BK1093 3; have hfz22_0 := blk_frozen BK1093.out 0; have hfz22_1 := blk_frozen BK1093.out 1; have hfz22_2 := blk_frozen BK1093.out 2; have hfz22_3 := blk_frozen BK1093.out 3) | ((with_reducible refine gate_dst (N := 30) rfl ?_); refine Kd.R_lit k27 _ 27 ?hg (N := 30) ?hd (xs := ([(⟨a1_0, a1_1⟩ : S27), (⟨a1_2, a1_3⟩ : S27)] : List (S27))) (inner := [.int .i64 a1_0, .int .i64 a1_1, .int .i64 a1_2, .int .i64 a1_3]) (ok := fun _ => True) (okp := fun _ => True) ?hr ?hp (fun _ hk => hk) trivial (Below.refl _ _) (Nat.le_refl _) (by simp) ?_; (case hd => rfl); (case hg => rfl); (case hr => first | (go_simp; done) | (go_simp; rfl)); (case hp => exact (Reps.c2 (show Kd.M k27 _ _ _ (⟨a1_0, a1_1⟩ : S27) [.int .i64 a1_0, .int .i64 a1_1] from (k27_mkM _ _ _ (⟨a1_0, a1_1⟩ : S27) )) (Reps.c2 (show Kd.M k27 _ _ _ (⟨a1_2, a1_3⟩ : S27) [.int .i64 a1_2, .int .i64 a1_3] from (k27_mkM _ _ _ (⟨a1_2, a1_3⟩ : S27) )) (Reps.none _ _)))); intro v1109 w23 ho24 hb hg_ hnew_; clear hg_ hnew_; (first | rw [← Ny1108.out] at ho24 | (simp only [Int.reduceToNat] at ho24; rw [← Ny1108.out] at ho24)); have HO1110 := Aside0.mk (Kd.R_lower (Kd.R_newB (Kd.R_new' (Kd.R_new' (Kd.R_new' ho24 (Kd.R_lt (by (with_reducible repeat (first | apply Kd.R_alloc | apply Kd.R_drewN | apply Kd.R_drew)); exact (Kd.R_mono (Kd.R_far (p := ⟨gb1107, 1, none⟩) (Kd.R_far (p := ⟨gb1107, 0, none⟩) (Kd.R_mono HO_6.out (fun k_ hk => (⟨hk, hk.2⟩ : _ ∧ k_ ≠ gb1107))) (fun _ hk => hk.2) (.int .i64 ((rd_T27 y1095 x22_1).f0))) (fun _ hk => hk.2) (.int .i64 ((rd_T27 y1095 x22_1).f1))) (fun _ h_ => h_.1))))) (Kd.R_lt (by (with_reducible repeat (first | apply Kd.R_alloc | apply Kd.R_drewN | apply Kd.R_drew)); exact (Kd.R_mono (Kd.R_far (p := ⟨gb1107, 1, none⟩) (Kd.R_far (p := ⟨gb1107, 0, none⟩) (Kd.R_mono HO_7.out (fun k_ hk => (⟨hk, hk.2⟩ : _ ∧ k_ ≠ gb1107))) (fun _ hk => hk.2) (.int .i64 ((rd_T27 y1095 x22_1).f0))) (fun _ hk => hk.2) (.int .i64 ((rd_T27 y1095 x22_1).f1))) (fun _ h_ => h_.1))))) (Kd.R_lt (by (with_reducible repeat (first | apply Kd.R_alloc | apply Kd.R_drewN | apply Kd.R_drew)); exact (Kd.R_mono (Kd.R_far (p := ⟨gb1107, 1, none⟩) (Kd.R_far (p := ⟨gb1107, 0, none⟩) (Kd.R_mono HO_20.out (fun k_ hk => (⟨hk, hk.2⟩ : _ ∧ k_ ≠ gb1107))) (fun _ hk => hk.2) (.int .i64 ((rd_T27 y1095 x22_1).f0))) (fun _ hk => hk.2) (.int .i64 ((rd_T27 y1095 x22_1).f1))) (fun _ h_ => h_.1))))) (g := gb1107) (o := .cells #[.int .i64 ((rd_T27 y1095 x22_1).f0), .int .i64 ((rd_T27 y1095 x22_1).f1)] 27 (0, 0)) (by (with_reducible repeat (first | refine blk_drewN ?_ _ | refine blk_drew ?_ | refine blk_alloc ?_ _)); refine blk_put (cs := #[.int .i64 ((rd_T27 y1095 x22_1).f0), .int .i64 0]) ?_ 1 _ rfl; (with_reducible repeat (first | refine blk_drewN ?_ _ | refine blk_drew ?_ | refine blk_alloc ?_ _)); refine blk_put (cs := #[.int .i64 0, .int .i64 0]) ?_ 0 _ rfl; (with_reducible repeat (first | refine blk_drewN ?_ _ | refine blk_drew ?_ | refine blk_alloc ?_ _)); exact BK1107.out)) (below_size (zb1 HB))); replace HO_6 := Aside0.mk (Kd.R_elder' (by (with_reducible repeat (first | apply Kd.R_alloc | apply Kd.R_drewN | apply Kd.R_drew)); exact (Kd.R_mono (Kd.R_far (p := ⟨gb1107, 1, none⟩) (Kd.R_far (p := ⟨gb1107, 0, none⟩) (Kd.R_mono HO_6.out (fun k_ hk => (⟨hk, hk.2⟩ : _ ∧ k_ ≠ gb1107))) (fun _ hk => hk.2) (.int .i64 ((rd_T27 y1095 x22_1).f0))) (fun _ hk => hk.2) (.int .i64 ((rd_T27 y1095 x22_1).f1))) (fun _ h_ => h_.1))) (Kd.R_base ho24) hb); replace HO_7 := Aside0.mk (Kd.R_elder' (by (with_reducible repeat (first | apply Kd.R_alloc | apply Kd.R_drewN | apply Kd.R_drew)); exact (Kd.R_mono (Kd.R_far (p := ⟨gb1107, 1, none⟩) (Kd.R_far (p := ⟨gb1107, 0, none⟩) (Kd.R_mono HO_7.out (fun k_ hk => (⟨hk, hk.2⟩ : _ ∧ k_ ≠ gb1107))) (fun _ hk => hk.2) (.int .i64 ((rd_T27 y1095 x22_1).f0))) (fun _ hk => hk.2) (.int .i64 ((rd_T27 y1095 x22_1).f1))) (fun _ h_ => h_.1))) (Kd.R_base ho24) hb); replace HO_20 := Aside0.mk (Kd.R_elder' (by (with_reducible repeat (first | apply Kd.R_alloc | apply Kd.R_drewN | apply Kd.R_drew)); exact (Kd.R_mono (Kd.R_far (p := ⟨gb1107, 1, none⟩) (Kd.R_far (p := ⟨gb1107, 0, none⟩) (Kd.R_mono HO_20.out (fun k_ hk => (⟨hk, hk.2⟩ : _ ∧ k_ ≠ gb1107))) (fun _ hk => hk.2) (.int .i64 ((rd_T27 y1095 x22_1).f0))) (fun _ hk => hk.2) (.int .i64 ((rd_T27 y1095 x22_1).f1))) (fun _ h_ => h_.1))) (Kd.R_base ho24) hb); replace BK1092 := Aside0.mk (blk_below (g := gb1092) (o := .cells #[.int .i64 a0_0, .int .i64 a0_1, .int .i64 a0_2, .int .i64 a0_3] 29 (0, 0)) (zq5 BK1092) hb); replace BK1093 := Aside0.mk (blk_below (g := gb1093) (o := .cells #[.int .i64 a1_0, .int .i64 a1_1, .int .i64 a1_2, .int .i64 a1_3] 29 (0, 0)) (zq5 BK1093) hb); replace BK1094 := Aside0.mk (blk_below (g := gb1094) (o := .cells #[.int .i64 x1095000_1, .int .i64 x1095001_1, .int .i64 x1095002_1, .int .i64 x1095003_1] 29 (0, 0)) (zq5 BK1094) hb); replace BK1107 := Aside0.mk (blk_below (g := gb1107) (o := .cells #[.int .i64 ((rd_T27 y1095 x22_1).f0), .int .i64 ((rd_T27 y1095 x22_1).f1)] 27 (0, 0)) (by (with_reducible repeat (first | refine blk_drewN ?_ _ | refine blk_drew ?_ | refine blk_alloc ?_ _)); refine blk_put (cs := #[.int .i64 ((rd_T27 y1095 x22_1).f0), .int .i64 0]) ?_ 1 _ rfl; (with_reducible repeat (first | refine blk_drewN ?_ _ | refine blk_drew ?_ | refine blk_alloc ?_ _)); refine blk_put (cs := #[.int .i64 0, .int .i64 0]) ?_ 0 _ rfl; (with_reducible repeat (first | refine blk_drewN ?_ _ | refine blk_drew ?_ | refine blk_alloc ?_ _)); exact BK1107.out) hb); replace HB := Aside0.mk (below_step (zb1 HB) hb); clear hb ho24; obtain ⟨Ao25, co25, eo25⟩ := Kd.R_slice HO1110.out; subst eo25))
      go_loopg [6, 7, 32] k1 (fun kq v6 v7 v32 w' => ∃ (x6_2 : List (S27)) (x7_2 : List (S27)) (x32_2 : Int) (x1095000_2 : Int) (x1095001_2 : Int) (x1095002_2 : Int) (x1095003_2 : Int), v32 = .int .i64 x32_2 ∧ Aside0 (spec_ivDiv.l1 kq x6_2 x7_2 y1095 (y1095.length : Int) x22_1 y1108 (y1108.length : Int) x32_2 a1_0 a1_1 a1_2 a1_3 ((rd_T27 y1095 x22_1).f0) ((rd_T27 y1095 x22_1).f1) = some (r1, r2, r3, r4, r5)) ∧ Aside0 (kq ≤ k1) ∧ Aside0 (Kd.R k27 27 w' w.heap.size (fun k_ => some k_ ≠ (v7 : Value).ownBlock ∧ some k_ ≠ ((.slice (some ad1106) y1095.length co11) : Value).ownBlock ∧ some k_ ≠ ((.slice Ao25 y1108.length co25) : Value).ownBlock ∧ k_ ≠ gb1107) v6 x6_2) ∧ Aside0 (Kd.R k27 27 w' w.heap.size (fun k_ => some k_ ≠ (v6 : Value).ownBlock ∧ some k_ ≠ ((.slice (some ad1106) y1095.length co11) : Value).ownBlock ∧ some k_ ≠ ((.slice Ao25 y1108.length co25) : Value).ownBlock ∧ k_ ≠ gb1107) v7 x7_2) ∧ Aside0 (Kd.R k27 27 w' w.heap.size (fun k_ => some k_ ≠ (v6 : Value).ownBlock ∧ some k_ ≠ (v7 : Value).ownBlock ∧ some k_ ≠ ((.slice Ao25 y1108.length co25) : Value).ownBlock ∧ k_ ≠ gb1107) (.slice (some ad1106) y1095.length co11) y1095) ∧ Aside0 (Kd.R k27 27 w' w.heap.size (fun k_ => some k_ ≠ (v6 : Value).ownBlock ∧ some k_ ≠ (v7 : Value).ownBlock ∧ some k_ ≠ ((.slice (some ad1106) y1095.length co11) : Value).ownBlock ∧ k_ ≠ gb1107) (.slice Ao25 y1108.length co25) y1108) ∧ Aside0 (w'.heap[gb1092]? = some (.cells #[.int .i64 a0_0, .int .i64 a0_1, .int .i64 a0_2, .int .i64 a0_3] 29 (0, 0))) ∧ Aside0 (w'.heap[gb1093]? = some (.cells #[.int .i64 a1_0, .int .i64 a1_1, .int .i64 a1_2, .int .i64 a1_3] 29 (0, 0))) ∧ Aside0 (w'.heap[gb1094]? = some (.cells #[.int .i64 x1095000_2, .int .i64 x1095001_2, .int .i64 x1095002_2, .int .i64 x1095003_2] 29 (0, 0))) ∧ Aside0 (w'.heap[gb1107]? = some (.cells #[.int .i64 ((rd_T27 y1095 x22_1).f0), .int .i64 ((rd_T27 y1095 x22_1).f1)] 27 (0, 0))) ∧ Aside0 (Below w.heap.size w w'))
      case atStart => exact ⟨(x6_1), (x7_1), (0), (x1095000_1), (x1095001_1), (x1095002_1), (x1095003_1), (by first | rfl | (simp; done) | (simp [*]; done)), H', ⟨Nat.le_refl _⟩, ⟨by (with_reducible repeat (first | apply Kd.R_alloc | apply Kd.R_drewN | apply Kd.R_drew)); exact Kd.R_mono HO_6.out (fun _ hk => ⟨hk.1.1.1, ⟨hk.1.1.2, ⟨hk.2, hk.1.2⟩⟩⟩)⟩, ⟨by (with_reducible repeat (first | apply Kd.R_alloc | apply Kd.R_drewN | apply Kd.R_drew)); exact Kd.R_mono HO_7.out (fun _ hk => ⟨hk.1.1.1, ⟨hk.1.1.2, ⟨hk.2, hk.1.2⟩⟩⟩)⟩, ⟨by (with_reducible repeat (first | apply Kd.R_alloc | apply Kd.R_drewN | apply Kd.R_drew)); exact Kd.R_mono HO_20.out (fun _ hk => ⟨hk.1.1.1, ⟨hk.1.1.2, ⟨hk.2, hk.1.2⟩⟩⟩)⟩, ⟨by (with_reducible repeat (first | apply Kd.R_alloc | apply Kd.R_drewN | apply Kd.R_drew)); exact Kd.R_mono HO1110.out (fun _ hk => ⟨hk.1.1.1.2, ⟨hk.1.1.2, ⟨hk.1.2, hk.2⟩⟩⟩)⟩, ⟨by (with_reducible repeat (first | refine blk_drewN ?_ _ | refine blk_drew ?_ | refine blk_alloc ?_ _)); exact BK1092.out⟩, ⟨by (with_reducible repeat (first | refine blk_drewN ?_ _ | refine blk_drew ?_ | refine blk_alloc ?_ _)); exact BK1093.out⟩, ⟨by (with_reducible repeat (first | refine blk_drewN ?_ _ | refine blk_drew ?_ | refine blk_alloc ?_ _)); exact BK1094.out⟩, ⟨by (with_reducible repeat (first | refine blk_drewN ?_ _ | refine blk_drew ?_ | refine blk_alloc ?_ _)); exact BK1107.out⟩, ⟨(zb1 HB)⟩⟩
      case round =>
       clear H'
       try clear c1
       try clear p1
       try clear q1
       try clear hx1
       try clear c2
       try clear p2
       try clear c6
       try clear c7
       try clear p11
       try clear q11
       try clear hx11
       try clear c12
       try clear c12b0
       try clear c13
       try clear c13b0
       try clear c14
       try clear c14b0
       try clear c16
       try clear c17
       try clear c18
       try clear c20
       try clear c21
       try clear hcz19_0
       try clear hcz19_1
       try clear hcz22_0
       try clear hcz22_1
       try clear hcz22_2
       try clear hcz22_3
       try clear hcz8_0
       try clear hcz8_1
       try clear hcz8_2
       try clear hcz8_3
       try clear hfz19_0
       try clear hfz19_1
       try clear hfz22_0
       try clear hfz22_1
       try clear hfz22_2
       try clear hfz22_3
       try clear hfz8_0
       try clear hfz8_1
       try clear hfz8_2
       try clear hfz8_3
       try clear hx1106_0
       try clear hx1106_1
       try clear p1106
       try clear p2
       try clear q1106
       obtain ⟨x6_2, x7_2, x32_2, x1095000_2, x1095001_2, x1095002_2, x1095003_2, rfl, HA, HK2, HO_6, HO_7, HO_20, HO_30, BK1092, BK1093, BK1094, BK1107, HB⟩ := hrel
       cases gk with
       | zero => exact absurd HA.out (by simp [spec_ivDiv.l1])
       | succ k2 =>
        have H := HA.out
        clear HA
        simp only [spec_ivDiv.l1] at H
        by_cases c26 : x32_2 < (y1108.length : Int)
        ·
         rw [if_pos c26] at H
         have c26b0 : decide (x32_2 < (y1108.length : Int)) = true := decide_eq_true c26
         clear c26
         by_cases c27 : 0 ≤ x32_2
         ·
          rw [if_pos c27] at H
          have c27b0 : decide (0 ≤ x32_2) = true := decide_eq_true c27
          clear c27
          by_cases c28 : x32_2 < (y1108.length : Int)
          ·
           rw [if_pos c28] at H
           have c28b0 : decide (x32_2 < (y1108.length : Int)) = true := decide_eq_true c28
           clear c28
           replace H := Option.bind_eq_some_iff.mp H
           obtain ⟨⟨t1113, t1114, t1115⟩, A290, H⟩ := H
           replace H : ((spec_dyMinus.f ((rd_T27 y1095 x22_1).f0) ((rd_T27 y1095 x22_1).f1)).bind fun bt1117 => ((spec_dyDivide.f k2 bt1117.1 bt1117.2 ((rd_T27 y1108 x32_2).f0) ((rd_T27 y1108 x32_2).f1) 16).bind fun bt1119 => (if t1115 = true then (if bt1119.2.2 = true then (if x6_2.length < 8796093022208 then ((spec_dyMinus.f bt1119.1 bt1119.2.1).bind fun bt1126 => (if x7_2.length < 8796093022208 then (spec_ivDiv.l1 k2 (x6_2 ++ [(⟨t1113, t1114⟩ : S27)]) (x7_2 ++ [(⟨bt1126.1, bt1126.2⟩ : S27)]) y1095 (y1095.length : Int) x22_1 y1108 (y1108.length : Int) (wrap64 (x32_2 + 1)) a1_0 a1_1 a1_2 a1_3 ((rd_T27 y1095 x22_1).f0) ((rd_T27 y1095 x22_1).f1)) else (none))) else (none)) else (some (0, 0, 0, 0, false))) else (some (0, 0, 0, 0, false))))) = some (r1, r2, r3, r4, r5) := H
           have A29 := Aside0.mk A290
           clear A290
           replace H := Option.bind_eq_some_iff.mp H
           obtain ⟨⟨t1117, t1118⟩, A300, H⟩ := H
           replace H : ((spec_dyDivide.f k2 t1117 t1118 ((rd_T27 y1108 x32_2).f0) ((rd_T27 y1108 x32_2).f1) 16).bind fun bt1119 => (if t1115 = true then (if bt1119.2.2 = true then (if x6_2.length < 8796093022208 then ((spec_dyMinus.f bt1119.1 bt1119.2.1).bind fun bt1126 => (if x7_2.length < 8796093022208 then (spec_ivDiv.l1 k2 (x6_2 ++ [(⟨t1113, t1114⟩ : S27)]) (x7_2 ++ [(⟨bt1126.1, bt1126.2⟩ : S27)]) y1095 (y1095.length : Int) x22_1 y1108 (y1108.length : Int) (wrap64 (x32_2 + 1)) a1_0 a1_1 a1_2 a1_3 ((rd_T27 y1095 x22_1).f0) ((rd_T27 y1095 x22_1).f1)) else (none))) else (none)) else (some (0, 0, 0, 0, false))) else (some (0, 0, 0, 0, false)))) = some (r1, r2, r3, r4, r5) := H
           have A30 := Aside0.mk A300
           clear A300
           replace H := Option.bind_eq_some_iff.mp H
           obtain ⟨⟨t1119, t1120, t1121⟩, A310, H⟩ := H
           replace H : (if t1115 = true then (if t1121 = true then (if x6_2.length < 8796093022208 then ((spec_dyMinus.f t1119 t1120).bind fun bt1126 => (if x7_2.length < 8796093022208 then (spec_ivDiv.l1 k2 (x6_2 ++ [(⟨t1113, t1114⟩ : S27)]) (x7_2 ++ [(⟨bt1126.1, bt1126.2⟩ : S27)]) y1095 (y1095.length : Int) x22_1 y1108 (y1108.length : Int) (wrap64 (x32_2 + 1)) a1_0 a1_1 a1_2 a1_3 ((rd_T27 y1095 x22_1).f0) ((rd_T27 y1095 x22_1).f1)) else (none))) else (none)) else (some (0, 0, 0, 0, false))) else (some (0, 0, 0, 0, false))) = some (r1, r2, r3, r4, r5) := H
           have A31 := Aside0.mk A310
           clear A310
           by_cases c32 : t1115 = true
           ·
            subst c32
            have H1 : (if t1121 = true then (if x6_2.length < 8796093022208 then ((spec_dyMinus.f t1119 t1120).bind fun bt1126 => (if x7_2.length < 8796093022208 then (spec_ivDiv.l1 k2 (x6_2 ++ [(⟨t1113, t1114⟩ : S27)]) (x7_2 ++ [(⟨bt1126.1, bt1126.2⟩ : S27)]) y1095 (y1095.length : Int) x22_1 y1108 (y1108.length : Int) (wrap64 (x32_2 + 1)) a1_0 a1_1 a1_2 a1_3 ((rd_T27 y1095 x22_1).f0) ((rd_T27 y1095 x22_1).f1)) else (none))) else (none)) else (some (0, 0, 0, 0, false))) = some (r1, r2, r3, r4, r5) := by rw [if_pos rfl] at H; exact H
            clear H
            have H := H1
            clear H1
            by_cases c33 : t1121 = true
            ·
             subst c33
             have H1 : (if x6_2.length < 8796093022208 then ((spec_dyMinus.f t1119 t1120).bind fun bt1126 => (if x7_2.length < 8796093022208 then (spec_ivDiv.l1 k2 (x6_2 ++ [(⟨t1113, t1114⟩ : S27)]) (x7_2 ++ [(⟨bt1126.1, bt1126.2⟩ : S27)]) y1095 (y1095.length : Int) x22_1 y1108 (y1108.length : Int) (wrap64 (x32_2 + 1)) a1_0 a1_1 a1_2 a1_3 ((rd_T27 y1095 x22_1).f0) ((rd_T27 y1095 x22_1).f1)) else (none))) else (none)) = some (r1, r2, r3, r4, r5) := by rw [if_pos rfl] at H; exact H
             clear H
             have H := H1
             clear H1
             by_cases c34 : x6_2.length < 8796093022208
             ·
              rw [if_pos c34] at H
              have LMc34 := Aside0.mk c34
              clear c34
              obtain ⟨y1123, hy1123⟩ : ∃ y_ : List (S27), y_ = (x6_2 ++ [(⟨t1113, t1114⟩ : S27)]) := ⟨_, rfl⟩
              replace H : ((spec_dyMinus.f t1119 t1120).bind fun bt1126 => (if x7_2.length < 8796093022208 then (spec_ivDiv.l1 k2 y1123 (x7_2 ++ [(⟨bt1126.1, bt1126.2⟩ : S27)]) y1095 (y1095.length : Int) x22_1 y1108 (y1108.length : Int) (wrap64 (x32_2 + 1)) a1_0 a1_1 a1_2 a1_3 ((rd_T27 y1095 x22_1).f0) ((rd_T27 y1095 x22_1).f1)) else (none))) = some (r1, r2, r3, r4, r5) := by first | (rw [hy1123]; with_reducible exact H) | (have H2_ := (Option.bind_some _ _).symm.trans H; rw [hy1123]; with_reducible exact H2_) | (have H2_ := (Option.bind_some _ _).symm.trans H; with_reducible exact H2_) | with_reducible exact H | (rw [hy1123]; exact H) | exact H
              have Ny1123 := Aside0.mk hy1123
              clear hy1123
              replace H := Option.bind_eq_some_iff.mp H
              obtain ⟨⟨t1126, t1127⟩, A350, H⟩ := H
              replace H : (if x7_2.length < 8796093022208 then (spec_ivDiv.l1 k2 y1123 (x7_2 ++ [(⟨t1126, t1127⟩ : S27)]) y1095 (y1095.length : Int) x22_1 y1108 (y1108.length : Int) (wrap64 (x32_2 + 1)) a1_0 a1_1 a1_2 a1_3 ((rd_T27 y1095 x22_1).f0) ((rd_T27 y1095 x22_1).f1)) else (none)) = some (r1, r2, r3, r4, r5) := H
              have A35 := Aside0.mk A350
              clear A350
              by_cases c36 : x7_2.length < 8796093022208
              ·
               rw [if_pos c36] at H
               have LMc36 := Aside0.mk c36
               clear c36
               obtain ⟨y1128, hy1128⟩ : ∃ y_ : List (S27), y_ = (x7_2 ++ [(⟨t1126, t1127⟩ : S27)]) := ⟨_, rfl⟩
               replace H : (spec_ivDiv.l1 k2 y1123 y1128 y1095 (y1095.length : Int) x22_1 y1108 (y1108.length : Int) (wrap64 (x32_2 + 1)) a1_0 a1_1 a1_2 a1_3 ((rd_T27 y1095 x22_1).f0) ((rd_T27 y1095 x22_1).f1)) = some (r1, r2, r3, r4, r5) := by first | (rw [hy1128]; with_reducible exact H) | (have H2_ := (Option.bind_some _ _).symm.trans H; rw [hy1128]; with_reducible exact H2_) | (have H2_ := (Option.bind_some _ _).symm.trans H; with_reducible exact H2_) | with_reducible exact H | (rw [hy1128]; exact H) | exact H
               have Ny1128 := Aside0.mk hy1128
               clear hy1128
               have H' := Aside0.mk H
               clear H
               have p1111 : 0 ≤ (x32_2 : Int) := of_decide_eq_true (by first | (with_reducible assumption) | assumption)
               have q1111 : x32_2 < (y1108.length : Int) := of_decide_eq_true (by first | (with_reducible assumption) | assumption)
               obtain ⟨ad1111, e1111, hx1111_0, hx1111_1⟩ := at_T27 (Kd.R_reads' HO_30.out).2.2 x32_2 p1111 q1111
               cases e1111
               replace p1111 := eq_true p1111
               replace q1111 := eq_true q1111
               try go_wp2_with (first | ((with_reducible refine gate_dst (N := 11) rfl ?_); refine zbe (N := 11) (cs := #[.int .i64 0, .int .i64 0]) (t := 27) ?_; intro gb1112 hg w37 hbox hb; have BK1112 := Aside0.mk (hbox); have GW1112 := Aside0.mk (zge (zb1 HB) hg); have GE1112 := GW1112; have NB1092_1112 := Aside0.mk (zlt BK1092 hg); have NB1112_1092 := Aside0.mk (zgt BK1092 hg); have NB1093_1112 := Aside0.mk (zlt BK1093 hg); have NB1112_1093 := Aside0.mk (zgt BK1093 hg); have NB1094_1112 := Aside0.mk (zlt BK1094 hg); have NB1112_1094 := Aside0.mk (zgt BK1094 hg); have NB1107_1112 := Aside0.mk (zlt BK1107 hg); have NB1112_1107 := Aside0.mk (zgt BK1107 hg); replace HO_6 := Aside0.mk (Kd.R_below (Kd.R_elderB (zq3 HO_6) gb1112 (Nat.le_of_eq hg.symm)) hb); replace HO_7 := Aside0.mk (Kd.R_below (Kd.R_elderB (zq3 HO_7) gb1112 (Nat.le_of_eq hg.symm)) hb); replace HO_20 := Aside0.mk (Kd.R_below (Kd.R_elderB (zq3 HO_20) gb1112 (Nat.le_of_eq hg.symm)) hb); replace HO_30 := Aside0.mk (Kd.R_below (Kd.R_elderB (zq3 HO_30) gb1112 (Nat.le_of_eq hg.symm)) hb); replace BK1092 := Aside0.mk (zbb BK1092 hb); replace BK1093 := Aside0.mk (zbb BK1093 hb); replace BK1094 := Aside0.mk (zbb BK1094 hb); replace BK1107 := Aside0.mk (zbb BK1107 hb); replace HB := Aside0.mk (below_step (zb1 HB) hb); clear hb hbox hg; have hnb38 := NB1112_1092.out; have hnc38 := NB1092_1112.out; have hnb39 := NB1112_1093.out; have hnc39 := NB1093_1112.out; have hnb40 := NB1112_1094.out; have hnc40 := NB1094_1112.out; have hnb41 := NB1112_1107.out; have hnc41 := NB1107_1112.out; have hcz42_0 : w37.cell? ⟨gb1112, 0, none⟩ = some (.int .i64 0) := zc BK1112 0; have hcz42_1 : w37.cell? ⟨gb1112, 1, none⟩ = some (.int .i64 0) := zc BK1112 1; have hfz42_0 := blk_frozen BK1112.out 0; have hfz42_1 := blk_frozen BK1112.out 1; have hnb43 := NB1107_1092.out; have hnc43 := NB1092_1107.out; have hnb44 := NB1107_1093.out; have hnc44 := NB1093_1107.out; have hnb45 := NB1107_1094.out; have hnc45 := NB1094_1107.out; have hcz46_0 : w37.cell? ⟨gb1107, 0, none⟩ = some (.int .i64 ((rd_T27 y1095 x22_1).f0)) := zc BK1107 0; have hcz46_1 : w37.cell? ⟨gb1107, 1, none⟩ = some (.int .i64 ((rd_T27 y1095 x22_1).f1)) := zc BK1107 1; have hfz46_0 := blk_frozen BK1107.out 0; have hfz46_1 := blk_frozen BK1107.out 1) | ((with_reducible refine gate_callee (f := 99) rfl ?_); refine goesL_ (some 39) rfl rfl Try.func99 (by kernel_rfl) rfl #[.agg #[.int .i64 ((rd_T27 y1095 x22_1).f0), .int .i64 ((rd_T27 y1095 x22_1).f1)], .agg #[.int .i64 ((rd_T27 y1108 x32_2).f0), .int .i64 ((rd_T27 y1108 x32_2).f1)], .int .i64 16] rfl zq6 ?_; (with_reducible refine (spec_dyDivide.calls k2 ((rd_T27 y1095 x22_1).f0) ((rd_T27 y1095 x22_1).f1) ((rd_T27 y1108 x32_2).f0) ((rd_T27 y1108 x32_2).f1) 16 t1113 t1114 true _ A29.out).mono ?_); rintro e w47 ⟨rfl, hb⟩; refine ⟨_, rfl, ?_⟩; replace HO_6 := Aside0.mk (Kd.R_below (by (with_reducible repeat (first | apply Kd.R_alloc | apply Kd.R_drewN | apply Kd.R_drew)); exact (Kd.R_mono (Kd.R_far (p := ⟨gb1112, 1, none⟩) (Kd.R_far (p := ⟨gb1112, 0, none⟩) (Kd.R_mono HO_6.out (fun k_ hk => (⟨hk, hk.2⟩ : _ ∧ k_ ≠ gb1112))) (fun _ hk => hk.2) (.int .i64 ((rd_T27 y1108 x32_2).f0))) (fun _ hk => hk.2) (.int .i64 ((rd_T27 y1108 x32_2).f1))) (fun _ h_ => h_.1))) hb); replace HO_7 := Aside0.mk (Kd.R_below (by (with_reducible repeat (first | apply Kd.R_alloc | apply Kd.R_drewN | apply Kd.R_drew)); exact (Kd.R_mono (Kd.R_far (p := ⟨gb1112, 1, none⟩) (Kd.R_far (p := ⟨gb1112, 0, none⟩) (Kd.R_mono HO_7.out (fun k_ hk => (⟨hk, hk.2⟩ : _ ∧ k_ ≠ gb1112))) (fun _ hk => hk.2) (.int .i64 ((rd_T27 y1108 x32_2).f0))) (fun _ hk => hk.2) (.int .i64 ((rd_T27 y1108 x32_2).f1))) (fun _ h_ => h_.1))) hb); replace HO_20 := Aside0.mk (Kd.R_below (by (with_reducible repeat (first | apply Kd.R_alloc | apply Kd.R_drewN | apply Kd.R_drew)); exact (Kd.R_mono (Kd.R_far (p := ⟨gb1112, 1, none⟩) (Kd.R_far (p := ⟨gb1112, 0, none⟩) (Kd.R_mono HO_20.out (fun k_ hk => (⟨hk, hk.2⟩ : _ ∧ k_ ≠ gb1112))) (fun _ hk => hk.2) (.int .i64 ((rd_T27 y1108 x32_2).f0))) (fun _ hk => hk.2) (.int .i64 ((rd_T27 y1108 x32_2).f1))) (fun _ h_ => h_.1))) hb); replace HO_30 := Aside0.mk (Kd.R_below (by (with_reducible repeat (first | apply Kd.R_alloc | apply Kd.R_drewN | apply Kd.R_drew)); exact (Kd.R_mono (Kd.R_far (p := ⟨gb1112, 1, none⟩) (Kd.R_far (p := ⟨gb1112, 0, none⟩) (Kd.R_mono HO_30.out (fun k_ hk => (⟨hk, hk.2⟩ : _ ∧ k_ ≠ gb1112))) (fun _ hk => hk.2) (.int .i64 ((rd_T27 y1108 x32_2).f0))) (fun _ hk => hk.2) (.int .i64 ((rd_T27 y1108 x32_2).f1))) (fun _ h_ => h_.1))) hb); replace BK1092 := Aside0.mk (blk_below (g := gb1092) (o := .cells #[.int .i64 a0_0, .int .i64 a0_1, .int .i64 a0_2, .int .i64 a0_3] 29 (0, 0)) (zq5 BK1092) hb); replace BK1093 := Aside0.mk (blk_below (g := gb1093) (o := .cells #[.int .i64 a1_0, .int .i64 a1_1, .int .i64 a1_2, .int .i64 a1_3] 29 (0, 0)) (zq5 BK1093) hb); replace BK1094 := Aside0.mk (blk_below (g := gb1094) (o := .cells #[.int .i64 x1095000_2, .int .i64 x1095001_2, .int .i64 x1095002_2, .int .i64 x1095003_2] 29 (0, 0)) (zq5 BK1094) hb); replace BK1107 := Aside0.mk (blk_below (g := gb1107) (o := .cells #[.int .i64 ((rd_T27 y1095 x22_1).f0), .int .i64 ((rd_T27 y1095 x22_1).f1)] 27 (0, 0)) (zq5 BK1107) hb); replace BK1112 := Aside0.mk (blk_below (g := gb1112) (o := .cells #[.int .i64 ((rd_T27 y1108 x32_2).f0), .int .i64 ((rd_T27 y1108 x32_2).f1)] 27 (0, 0)) (by (with_reducible repeat (first | refine blk_drewN ?_ _ | refine blk_drew ?_ | refine blk_alloc ?_ _)); refine blk_put (cs := #[.int .i64 ((rd_T27 y1108 x32_2).f0), .int .i64 0]) ?_ 1 _ rfl; (with_reducible repeat (first | refine blk_drewN ?_ _ | refine blk_drew ?_ | refine blk_alloc ?_ _)); refine blk_put (cs := #[.int .i64 0, .int .i64 0]) ?_ 0 _ rfl; (with_reducible repeat (first | refine blk_drewN ?_ _ | refine blk_drew ?_ | refine blk_alloc ?_ _)); exact BK1112.out) hb); replace HB := Aside0.mk (below_step (zb1 HB) hb); (try clear hb); (try clear hb2); (try clear hk); (try clear hi)) | ((with_reducible refine gate_dst (N := 12) rfl ?_); refine zbe (N := 12) (cs := #[.int .i64 0, .int .i64 0]) (t := 27) ?_; intro gb1116 hg w48 hbox hb; have BK1116 := Aside0.mk (hbox); have GW1116 := Aside0.mk (zge (zb1 HB) hg); have GE1116 := GW1116; have NB1092_1116 := Aside0.mk (zlt BK1092 hg); have NB1116_1092 := Aside0.mk (zgt BK1092 hg); have NB1093_1116 := Aside0.mk (zlt BK1093 hg); have NB1116_1093 := Aside0.mk (zgt BK1093 hg); have NB1094_1116 := Aside0.mk (zlt BK1094 hg); have NB1116_1094 := Aside0.mk (zgt BK1094 hg); have NB1107_1116 := Aside0.mk (zlt BK1107 hg); have NB1116_1107 := Aside0.mk (zgt BK1107 hg); have NB1112_1116 := Aside0.mk (zlt BK1112 hg); have NB1116_1112 := Aside0.mk (zgt BK1112 hg); replace HO_6 := Aside0.mk (Kd.R_below (Kd.R_elderB (zq3 HO_6) gb1116 (Nat.le_of_eq hg.symm)) hb); replace HO_7 := Aside0.mk (Kd.R_below (Kd.R_elderB (zq3 HO_7) gb1116 (Nat.le_of_eq hg.symm)) hb); replace HO_20 := Aside0.mk (Kd.R_below (Kd.R_elderB (zq3 HO_20) gb1116 (Nat.le_of_eq hg.symm)) hb); replace HO_30 := Aside0.mk (Kd.R_below (Kd.R_elderB (zq3 HO_30) gb1116 (Nat.le_of_eq hg.symm)) hb); replace BK1092 := Aside0.mk (zbb BK1092 hb); replace BK1093 := Aside0.mk (zbb BK1093 hb); replace BK1094 := Aside0.mk (zbb BK1094 hb); replace BK1107 := Aside0.mk (zbb BK1107 hb); replace BK1112 := Aside0.mk (zbb BK1112 hb); replace HB := Aside0.mk (below_step (zb1 HB) hb); clear hb hbox hg; have hnb49 := NB1116_1092.out; have hnc49 := NB1092_1116.out; have hnb50 := NB1116_1093.out; have hnc50 := NB1093_1116.out; have hnb51 := NB1116_1094.out; have hnc51 := NB1094_1116.out; have hnb52 := NB1116_1107.out; have hnc52 := NB1107_1116.out; have hnb53 := NB1116_1112.out; have hnc53 := NB1112_1116.out; have hcz54_0 : w48.cell? ⟨gb1116, 0, none⟩ = some (.int .i64 0) := zc BK1116 0; have hcz54_1 : w48.cell? ⟨gb1116, 1, none⟩ = some (.int .i64 0) := zc BK1116 1; have hfz54_0 := blk_frozen BK1116.out 0; have hfz54_1 := blk_frozen BK1116.out 1))
               have n0_ : Aside0 (Kd.R k27 27 ((w48.setCell ⟨gb1116, 0, none⟩ (.int .i64 t1113)).setCell ⟨gb1116, 1, none⟩ (.int .i64 t1114)) w.heap.size (fun k_ => some k_ ≠ (u7 : Value).ownBlock ∧ some k_ ≠ (.slice (some ad1106) y1095.length co11 : Value).ownBlock ∧ some k_ ≠ (.slice (some ad1111) y1108.length co25 : Value).ownBlock ∧ k_ ≠ gb1107 ∧ k_ ≠ gb1112 ∧ k_ ≠ gb1116) u6 x6_2) := ⟨by (with_reducible repeat (first | apply Kd.R_alloc | apply Kd.R_drewN | apply Kd.R_drew)); exact Kd.R_mono (Kd.R_far (p := ⟨gb1116, 1, none⟩) (Kd.R_far (p := ⟨gb1116, 0, none⟩) (Kd.R_mono HO_6.out (fun k_ hk => (⟨hk, hk.2⟩ : _ ∧ k_ ≠ gb1116))) (fun _ hk => hk.2) (.int .i64 t1113)) (fun _ hk => hk.2) (.int .i64 t1114)) (fun _ hk => ⟨hk.1.1.1.1, ⟨hk.1.1.1.2.1, ⟨hk.1.1.1.2.2.1, ⟨hk.1.1.1.2.2.2, ⟨hk.1.1.2, hk.1.2⟩⟩⟩⟩⟩)⟩
               have n1_ : Aside0 (Kd.R k27 27 ((w48.setCell ⟨gb1116, 0, none⟩ (.int .i64 t1113)).setCell ⟨gb1116, 1, none⟩ (.int .i64 t1114)) w.heap.size (fun k_ => some k_ ≠ (u6 : Value).ownBlock ∧ some k_ ≠ (.slice (some ad1106) y1095.length co11 : Value).ownBlock ∧ some k_ ≠ (.slice (some ad1111) y1108.length co25 : Value).ownBlock ∧ k_ ≠ gb1107 ∧ k_ ≠ gb1112 ∧ k_ ≠ gb1116) u7 x7_2) := ⟨by (with_reducible repeat (first | apply Kd.R_alloc | apply Kd.R_drewN | apply Kd.R_drew)); exact Kd.R_mono (Kd.R_far (p := ⟨gb1116, 1, none⟩) (Kd.R_far (p := ⟨gb1116, 0, none⟩) (Kd.R_mono HO_7.out (fun k_ hk => (⟨hk, hk.2⟩ : _ ∧ k_ ≠ gb1116))) (fun _ hk => hk.2) (.int .i64 t1113)) (fun _ hk => hk.2) (.int .i64 t1114)) (fun _ hk => ⟨hk.1.1.1.1, ⟨hk.1.1.1.2.1, ⟨hk.1.1.1.2.2.1, ⟨hk.1.1.1.2.2.2, ⟨hk.1.1.2, hk.1.2⟩⟩⟩⟩⟩)⟩
               have n2_ : Aside0 (Kd.R k27 27 ((w48.setCell ⟨gb1116, 0, none⟩ (.int .i64 t1113)).setCell ⟨gb1116, 1, none⟩ (.int .i64 t1114)) w.heap.size (fun k_ => some k_ ≠ (u6 : Value).ownBlock ∧ some k_ ≠ (u7 : Value).ownBlock ∧ some k_ ≠ (.slice (some ad1111) y1108.length co25 : Value).ownBlock ∧ k_ ≠ gb1107 ∧ k_ ≠ gb1112 ∧ k_ ≠ gb1116) (.slice (some ad1106) y1095.length co11) y1095) := ⟨by (with_reducible repeat (first | apply Kd.R_alloc | apply Kd.R_drewN | apply Kd.R_drew)); exact Kd.R_mono (Kd.R_far (p := ⟨gb1116, 1, none⟩) (Kd.R_far (p := ⟨gb1116, 0, none⟩) (Kd.R_mono HO_20.out (fun k_ hk => (⟨hk, hk.2⟩ : _ ∧ k_ ≠ gb1116))) (fun _ hk => hk.2) (.int .i64 t1113)) (fun _ hk => hk.2) (.int .i64 t1114)) (fun _ hk => ⟨hk.1.1.1.1, ⟨hk.1.1.1.2.1, ⟨hk.1.1.1.2.2.1, ⟨hk.1.1.1.2.2.2, ⟨hk.1.1.2, hk.1.2⟩⟩⟩⟩⟩)⟩
               have n3_ : Aside0 (Kd.R k27 27 ((w48.setCell ⟨gb1116, 0, none⟩ (.int .i64 t1113)).setCell ⟨gb1116, 1, none⟩ (.int .i64 t1114)) w.heap.size (fun k_ => some k_ ≠ (u6 : Value).ownBlock ∧ some k_ ≠ (u7 : Value).ownBlock ∧ some k_ ≠ (.slice (some ad1106) y1095.length co11 : Value).ownBlock ∧ k_ ≠ gb1107 ∧ k_ ≠ gb1112 ∧ k_ ≠ gb1116) (.slice (some ad1111) y1108.length co25) y1108) := ⟨by (with_reducible repeat (first | apply Kd.R_alloc | apply Kd.R_drewN | apply Kd.R_drew)); exact Kd.R_mono (Kd.R_far (p := ⟨gb1116, 1, none⟩) (Kd.R_far (p := ⟨gb1116, 0, none⟩) (Kd.R_mono HO_30.out (fun k_ hk => (⟨hk, hk.2⟩ : _ ∧ k_ ≠ gb1116))) (fun _ hk => hk.2) (.int .i64 t1113)) (fun _ hk => hk.2) (.int .i64 t1114)) (fun _ hk => ⟨hk.1.1.1.1, ⟨hk.1.1.1.2.1, ⟨hk.1.1.1.2.2.1, ⟨hk.1.1.1.2.2.2, ⟨hk.1.1.2, hk.1.2⟩⟩⟩⟩⟩)⟩
               have n4_ : Aside0 (((w48.setCell ⟨gb1116, 0, none⟩ (.int .i64 t1113)).setCell ⟨gb1116, 1, none⟩ (.int .i64 t1114)).heap[gb1092]? = some (.cells #[.int .i64 a0_0, .int .i64 a0_1, .int .i64 a0_2, .int .i64 a0_3] 29 (0, 0))) := ⟨zq5 BK1092⟩
               have n5_ : Aside0 (((w48.setCell ⟨gb1116, 0, none⟩ (.int .i64 t1113)).setCell ⟨gb1116, 1, none⟩ (.int .i64 t1114)).heap[gb1093]? = some (.cells #[.int .i64 a1_0, .int .i64 a1_1, .int .i64 a1_2, .int .i64 a1_3] 29 (0, 0))) := ⟨zq5 BK1093⟩
               have n6_ : Aside0 (((w48.setCell ⟨gb1116, 0, none⟩ (.int .i64 t1113)).setCell ⟨gb1116, 1, none⟩ (.int .i64 t1114)).heap[gb1094]? = some (.cells #[.int .i64 x1095000_2, .int .i64 x1095001_2, .int .i64 x1095002_2, .int .i64 x1095003_2] 29 (0, 0))) := ⟨zq5 BK1094⟩
               have n7_ : Aside0 (((w48.setCell ⟨gb1116, 0, none⟩ (.int .i64 t1113)).setCell ⟨gb1116, 1, none⟩ (.int .i64 t1114)).heap[gb1107]? = some (.cells #[.int .i64 ((rd_T27 y1095 x22_1).f0), .int .i64 ((rd_T27 y1095 x22_1).f1)] 27 (0, 0))) := ⟨zq5 BK1107⟩
               have n8_ : Aside0 (((w48.setCell ⟨gb1116, 0, none⟩ (.int .i64 t1113)).setCell ⟨gb1116, 1, none⟩ (.int .i64 t1114)).heap[gb1112]? = some (.cells #[.int .i64 ((rd_T27 y1108 x32_2).f0), .int .i64 ((rd_T27 y1108 x32_2).f1)] 27 (0, 0))) := ⟨zq5 BK1112⟩
               have n9_ : Aside0 (((w48.setCell ⟨gb1116, 0, none⟩ (.int .i64 t1113)).setCell ⟨gb1116, 1, none⟩ (.int .i64 t1114)).heap[gb1116]? = some (.cells #[.int .i64 t1113, .int .i64 t1114] 27 (0, 0))) := ⟨by (with_reducible repeat (first | refine blk_drewN ?_ _ | refine blk_drew ?_ | refine blk_alloc ?_ _)); refine blk_put (cs := #[.int .i64 t1113, .int .i64 0]) ?_ 1 _ rfl; (with_reducible repeat (first | refine blk_drewN ?_ _ | refine blk_drew ?_ | refine blk_alloc ?_ _)); refine blk_put (cs := #[.int .i64 0, .int .i64 0]) ?_ 0 _ rfl; (with_reducible repeat (first | refine blk_drewN ?_ _ | refine blk_drew ?_ | refine blk_alloc ?_ _)); exact BK1116.out⟩
               have n10_ : Aside0 (Below w.heap.size w ((w48.setCell ⟨gb1116, 0, none⟩ (.int .i64 t1113)).setCell ⟨gb1116, 1, none⟩ (.int .i64 t1114))) := ⟨(zb1 HB)⟩
               (try clear HO_6)
               (try clear HO_7)
               (try clear HO_20)
               (try clear HO_30)
               (try clear BK1092)
               (try clear BK1093)
               (try clear BK1094)
               (try clear BK1107)
               (try clear BK1112)
               (try clear BK1116)
               (try clear HB)
               generalize ((w48.setCell ⟨gb1116, 0, none⟩ (.int .i64 t1113)).setCell ⟨gb1116, 1, none⟩ (.int .i64 t1114)) = w55 at n0_ n1_ n2_ n3_ n4_ n5_ n6_ n7_ n8_ n9_ n10_ ⊢
               have HO_6 := n0_; have HO_7 := n1_; have HO_20 := n2_; have HO_30 := n3_; have BK1092 := n4_; have BK1093 := n5_; have BK1094 := n6_; have BK1107 := n7_; have BK1112 := n8_; have BK1116 := n9_; have HB := n10_
               clear n0_ n1_ n2_ n3_ n4_ n5_ n6_ n7_ n8_ n9_ n10_
               replace HO_6 := Aside0.mk (Kd.R_drew HO_6.out); replace HO_7 := Aside0.mk (Kd.R_drew HO_7.out); replace HO_20 := Aside0.mk (Kd.R_drew HO_20.out); replace HO_30 := Aside0.mk (Kd.R_drew HO_30.out); replace BK1092 := Aside0.mk (blk_drew BK1092.out); replace BK1093 := Aside0.mk (blk_drew BK1093.out); replace BK1094 := Aside0.mk (blk_drew BK1094.out); replace BK1107 := Aside0.mk (blk_drew BK1107.out); replace BK1112 := Aside0.mk (blk_drew BK1112.out); replace BK1116 := Aside0.mk (blk_drew BK1116.out); replace HB := Aside0.mk (below_drew1 HB.out)
               refine start_ (n := 10) (S := fun w' => w'.cell? ⟨gb1107, 0, none⟩ = some (.int .i64 ((rd_T27 y1095 x22_1).f0)) ∧ w'.cell? ⟨gb1107, 1, none⟩ = some (.int .i64 ((rd_T27 y1095 x22_1).f1)) ∧ w'.cell? ⟨gb1112, 0, none⟩ = some (.int .i64 ((rd_T27 y1108 x32_2).f0)) ∧ w'.cell? ⟨gb1112, 1, none⟩ = some (.int .i64 ((rd_T27 y1108 x32_2).f1))) (ds := []) #[false, false, false, false, false, false, false, false, false, false] (by kernel_rfl) rfl rfl ⟨zc BK1107 0, zc BK1107 1, zc BK1112 0, zc BK1112 1⟩ (fun hHeld => ?_); refine with_tabW spec_ivDiv.tab9 spec_ivDiv.bits9 (fun HT_ HW_ => ?_)
               generalize w55.drew = w56 at HO_6 HO_7 HO_20 HO_30 BK1092 BK1093 BK1094 BK1107 BK1112 BK1116 HB hHeld ⊢
               refine take_ (i := 0) (N := some 43) (v := ?_) (a' := ?_) #[true, false, false, false, false, false, false, false, false, false] rfl rfl (take_ofW HT_.out HW_.out (by kernel_rfl)) (fun _ _ _ h => h) (Or.inl ⟨by rfl, ?_⟩) hHeld ?_ ?_
               rotate_left
               ·
                rintro w' ⟨s0, s1, s2, s3⟩
                first | (go_simp; with_reducible rfl) | (go_simp; simp only [Instr.field]; go_simp; simp only [asAgg]; go_simp; rfl)
               rotate_left
               ·
                simp only [Act.put, List.setIfInBounds_toArray, List.set_cons_zero, List.set_cons_succ, i64_w, i32_w]
                rfl
               refine take_ (i := 2) (N := some 45) (v := ?_) (a' := ?_) #[true, false, true, false, false, false, false, false, false, false] rfl rfl (take_ofW HT_.out HW_.out (by kernel_rfl)) (fun _ _ _ h => h) (Or.inl ⟨by rfl, ?_⟩) hHeld ?_ ?_
               rotate_left
               ·
                rintro w' ⟨s0, s1, s2, s3⟩
                first | (go_simp; with_reducible rfl) | (go_simp; simp only [Instr.field]; go_simp; simp only [asAgg]; go_simp; rfl)
               rotate_left
               ·
                simp only [Act.put, List.setIfInBounds_toArray, List.set_cons_zero, List.set_cons_succ, i64_w, i32_w]
                rfl
               refine join_ (σ := Nat) 2 #[true, true, true, true, true, true, true, true, false, false] (fun s_ => [(44, .agg #[.int .i64 t1117, .int .i64 t1118]), (46, .tuple #[.agg #[.int .i64 t1119, .int .i64 t1120], .bool true]), (14, .pointer (some ⟨s_, 0, none⟩)), (42, .tuple #[.agg #[.int .i64 t1119, .int .i64 t1120], .bool true]), (47, .agg #[.int .i64 t1119, .int .i64 t1120]), (48, .bool true)]) (fun s_ w' => (w'.cell? ⟨gb1107, 0, none⟩ = some (.int .i64 ((rd_T27 y1095 x22_1).f0)) ∧ w'.cell? ⟨gb1107, 1, none⟩ = some (.int .i64 ((rd_T27 y1095 x22_1).f1)) ∧ w'.cell? ⟨gb1112, 0, none⟩ = some (.int .i64 ((rd_T27 y1108 x32_2).f0)) ∧ w'.cell? ⟨gb1112, 1, none⟩ = some (.int .i64 ((rd_T27 y1108 x32_2).f1))) ∧ (Kd.R k27 27 w' w.heap.size (fun k_ => some k_ ≠ (.slice (some ad1111) y1108.length co25 : Value).ownBlock ∧ some k_ ≠ (u6 : Value).ownBlock ∧ some k_ ≠ (u7 : Value).ownBlock ∧ k_ ≠ gb1107 ∧ k_ ≠ gb1112 ∧ k_ ≠ gb1116 ∧ k_ ≠ s_) (.slice (some ad1106) y1095.length co11) y1095) ∧ (Kd.R k27 27 w' w.heap.size (fun k_ => some k_ ≠ (.slice (some ad1106) y1095.length co11 : Value).ownBlock ∧ some k_ ≠ (u6 : Value).ownBlock ∧ some k_ ≠ (u7 : Value).ownBlock ∧ k_ ≠ gb1107 ∧ k_ ≠ gb1112 ∧ k_ ≠ gb1116 ∧ k_ ≠ s_) (.slice (some ad1111) y1108.length co25) y1108) ∧ (Kd.R k27 27 w' w.heap.size (fun k_ => some k_ ≠ (.slice (some ad1106) y1095.length co11 : Value).ownBlock ∧ some k_ ≠ (.slice (some ad1111) y1108.length co25 : Value).ownBlock ∧ some k_ ≠ (u7 : Value).ownBlock ∧ k_ ≠ gb1107 ∧ k_ ≠ gb1112 ∧ k_ ≠ gb1116 ∧ k_ ≠ s_) u6 x6_2) ∧ (Kd.R k27 27 w' w.heap.size (fun k_ => some k_ ≠ (.slice (some ad1106) y1095.length co11 : Value).ownBlock ∧ some k_ ≠ (.slice (some ad1111) y1108.length co25 : Value).ownBlock ∧ some k_ ≠ (u6 : Value).ownBlock ∧ k_ ≠ gb1107 ∧ k_ ≠ gb1112 ∧ k_ ≠ gb1116 ∧ k_ ≠ s_) u7 x7_2) ∧ (w'.heap[gb1092]? = some (.cells #[.int .i64 a0_0, .int .i64 a0_1, .int .i64 a0_2, .int .i64 a0_3] 29 (0, 0))) ∧ (w'.heap[gb1093]? = some (.cells #[.int .i64 a1_0, .int .i64 a1_1, .int .i64 a1_2, .int .i64 a1_3] 29 (0, 0))) ∧ (w'.heap[gb1094]? = some (.cells #[.int .i64 x1095000_2, .int .i64 x1095001_2, .int .i64 x1095002_2, .int .i64 x1095003_2] 29 (0, 0))) ∧ (w'.heap[gb1107]? = some (.cells #[.int .i64 ((rd_T27 y1095 x22_1).f0), .int .i64 ((rd_T27 y1095 x22_1).f1)] 27 (0, 0))) ∧ (w'.heap[gb1112]? = some (.cells #[.int .i64 ((rd_T27 y1108 x32_2).f0), .int .i64 ((rd_T27 y1108 x32_2).f1)] 27 (0, 0))) ∧ (w'.heap[gb1116]? = some (.cells #[.int .i64 t1113, .int .i64 t1114] 27 (0, 0))) ∧ (w'.heap[s_]? = some (.cells #[.int .i64 0, .int .i64 0] 27 (0, 0))) ∧ (w.heap.size ≤ s_) ∧ (w.heap.size ≤ s_) ∧ (gb1092 ≠ s_) ∧ (s_ ≠ gb1092) ∧ (gb1093 ≠ s_) ∧ (s_ ≠ gb1093) ∧ (gb1094 ≠ s_) ∧ (s_ ≠ gb1094) ∧ (gb1107 ≠ s_) ∧ (s_ ≠ gb1107) ∧ (gb1112 ≠ s_) ∧ (s_ ≠ gb1112) ∧ (gb1116 ≠ s_) ∧ (s_ ≠ gb1116) ∧ (Below w.heap.size w w')) ?_ ?_
               rotate_left
               ·
                intro hCont
                refine two_ (i := 1) (j := 7) (Ni := some 44) (Nj := some 14) #[true, true, true, false, false, false, false, false, false, false] #[true, false, true, false, false, false, false, true, false, false] rfl rfl rfl rfl (two_of HT_.out (by kernel_rfl)) (by decide) (by decide) (fun K hK => ?_) (fun K hK => ?_)
                ·
                 refine goes_ Try.func87 (by kernel_rfl) rfl #[.agg #[.int .i64 ((rd_T27 y1095 x22_1).f0), .int .i64 ((rd_T27 y1095 x22_1).f1)]] (by rfl) rfl rfl zq6 ?_
                 with_reducible refine (spec_dyMinus.calls ((rd_T27 y1095 x22_1).f0) ((rd_T27 y1095 x22_1).f1) t1117 t1118 _ A30.out).mono ?_
                 rintro e w57 ⟨rfl, hb⟩
                 refine ⟨_, rfl, ?_⟩
                 replace HO_6 := Aside0.mk (Kd.R_below (zq3 HO_6) hb); replace HO_7 := Aside0.mk (Kd.R_below (zq3 HO_7) hb); replace HO_20 := Aside0.mk (Kd.R_below (zq3 HO_20) hb); replace HO_30 := Aside0.mk (Kd.R_below (zq3 HO_30) hb); replace BK1092 := Aside0.mk (zbb BK1092 hb); replace BK1093 := Aside0.mk (zbb BK1093 hb); replace BK1094 := Aside0.mk (zbb BK1094 hb); replace BK1107 := Aside0.mk (zbb BK1107 hb); replace BK1112 := Aside0.mk (zbb BK1112 hb); replace BK1116 := Aside0.mk (zbb BK1116 hb); replace HB := Aside0.mk (below_step (zb1 HB) hb)
                 (try clear hb)
                 (try clear hb2)
                 (try clear hk)
                 (try clear hi)
                 refine hK.out _ _ ⟨zc BK1107 0, zc BK1107 1, zc BK1112 0, zc BK1112 1⟩ (fun hHeld => ?_)
                 clear hK K
                 refine norm_ (a' := ?_) ?_ ?_
                 rotate_left
                 ·
                  show Act.put _ (some 44) _ = _
                  simp only [Act.put, List.setIfInBounds_toArray, List.set_cons_zero, List.set_cons_succ, i64_w, i32_w]; rfl
                 refine two_ (i := 3) (j := 7) (Ni := some 46) (Nj := some 14) #[true, true, true, true, false, false, false, false, false, false] #[true, true, true, false, false, false, false, true, false, false] rfl rfl rfl rfl (two_of HT_.out (by kernel_rfl)) (by decide) (by decide) (fun K hK => ?_) (fun K hK => ?_)
                 ·
                  refine goes_ Try.func99 (by kernel_rfl) rfl #[.agg #[.int .i64 t1117, .int .i64 t1118], .agg #[.int .i64 ((rd_T27 y1108 x32_2).f0), .int .i64 ((rd_T27 y1108 x32_2).f1)], .int .i64 16] (by rfl) rfl rfl zq6 ?_
                  with_reducible refine (spec_dyDivide.calls k2 t1117 t1118 ((rd_T27 y1108 x32_2).f0) ((rd_T27 y1108 x32_2).f1) 16 t1119 t1120 true _ A31.out).mono ?_
                  rintro e w58 ⟨rfl, hb⟩
                  refine ⟨_, rfl, ?_⟩
                  replace HO_6 := Aside0.mk (Kd.R_below (zq3 HO_6) hb); replace HO_7 := Aside0.mk (Kd.R_below (zq3 HO_7) hb); replace HO_20 := Aside0.mk (Kd.R_below (zq3 HO_20) hb); replace HO_30 := Aside0.mk (Kd.R_below (zq3 HO_30) hb); replace BK1092 := Aside0.mk (zbb BK1092 hb); replace BK1093 := Aside0.mk (zbb BK1093 hb); replace BK1094 := Aside0.mk (zbb BK1094 hb); replace BK1107 := Aside0.mk (zbb BK1107 hb); replace BK1112 := Aside0.mk (zbb BK1112 hb); replace BK1116 := Aside0.mk (zbb BK1116 hb); replace HB := Aside0.mk (below_step (zb1 HB) hb)
                  (try clear hb)
                  (try clear hb2)
                  (try clear hk)
                  (try clear hi)
                  refine hK.out _ _ ⟨zc BK1107 0, zc BK1107 1, zc BK1112 0, zc BK1112 1⟩ (fun hHeld => ?_)
                  clear hK K
                  refine norm_ (a' := ?_) ?_ ?_
                  rotate_left
                  ·
                   show Act.put _ (some 46) _ = _
                   simp only [Act.put, List.setIfInBounds_toArray, List.set_cons_zero, List.set_cons_succ, i64_w, i32_w]; rfl
                  refine pure_ (i := 4) (N := some 42) (v := ?_) (a' := ?_) #[true, true, true, true, true, false, false, false, false, false] rfl rfl (any_of HT_.out (by kernel_rfl)) (fun _ _ _ h => h) (Or.inl ⟨by rfl, ?_⟩) ?_ ?_
                  rotate_left
                  ·
                   intro w'
                   first | (go_simp; with_reducible rfl) | (go_simp; simp only [Instr.field]; go_simp; simp only [asAgg]; go_simp; rfl)
                  rotate_left
                  ·
                   simp only [Act.put, List.setIfInBounds_toArray, List.set_cons_zero, List.set_cons_succ, i64_w, i32_w]
                   rfl
                  refine pure_ (i := 5) (N := some 47) (v := ?_) (a' := ?_) #[true, true, true, true, true, true, false, false, false, false] rfl rfl (any_of HT_.out (by kernel_rfl)) (fun _ _ _ h => h) (Or.inl ⟨by rfl, ?_⟩) ?_ ?_
                  rotate_left
                  ·
                   intro w'
                   first | (go_simp; with_reducible rfl) | (go_simp; simp only [Instr.field]; go_simp; simp only [asAgg]; go_simp; rfl)
                  rotate_left
                  ·
                   simp only [Act.put, List.setIfInBounds_toArray, List.set_cons_zero, List.set_cons_succ, i64_w, i32_w]
                   rfl
                  refine pure_ (i := 6) (N := some 48) (v := ?_) (a' := ?_) #[true, true, true, true, true, true, true, false, false, false] rfl rfl (any_of HT_.out (by kernel_rfl)) (fun _ _ _ h => h) (Or.inl ⟨by rfl, ?_⟩) ?_ ?_
                  rotate_left
                  ·
                   intro w'
                   first | (go_simp; with_reducible rfl) | (go_simp; simp only [Instr.field]; go_simp; simp only [asAgg]; go_simp; rfl)
                  rotate_left
                  ·
                   simp only [Act.put, List.setIfInBounds_toArray, List.set_cons_zero, List.set_cons_succ, i64_w, i32_w]
                   rfl
                  refine one_ (i := 7) (N := some 14) #[true, true, true, true, true, true, true, true, false, false] rfl rfl (one_of HT_.out (by kernel_rfl)) (by decide) (fun K hK => ?_)
                  refine box_step ?hg (N := 14) ?hd (cs := #[.int .i64 0, .int .i64 0]) (t := 27) ?hr ?_; (case hd => rfl); (case hg => rfl); (case hr => first | (go_simp; done) | (go_simp; rfl))
                  intro gb1122 hg w59 hbox hb
                  have n0_ := Aside0.mk (Kd.R_below (Kd.R_elderB (zq3 HO_6) gb1122 (Nat.le_of_eq hg.symm)) hb)
                  have n1_ := Aside0.mk (Kd.R_below (Kd.R_elderB (zq3 HO_7) gb1122 (Nat.le_of_eq hg.symm)) hb)
                  have n2_ := Aside0.mk (Kd.R_below (Kd.R_elderB (zq3 HO_20) gb1122 (Nat.le_of_eq hg.symm)) hb)
                  have n3_ := Aside0.mk (Kd.R_below (Kd.R_elderB (zq3 HO_30) gb1122 (Nat.le_of_eq hg.symm)) hb)
                  have n4_ := Aside0.mk (zbb BK1092 hb)
                  have n5_ := Aside0.mk (zbb BK1093 hb)
                  have n6_ := Aside0.mk (zbb BK1094 hb)
                  have n7_ := Aside0.mk (zbb BK1107 hb)
                  have n8_ := Aside0.mk (zbb BK1112 hb)
                  have n9_ := Aside0.mk (zbb BK1116 hb)
                  have n10_ := Aside0.mk (below_step (zb1 HB) hb)
                  have BK1122 := Aside0.mk (hbox)
                  have GW1122 := Aside0.mk (zge (zb1 HB) hg)
                  have GE1122 := Aside0.mk (zge (zb1 HB) hg)
                  have NB1092_1122 := Aside0.mk (zlt BK1092 hg)
                  have NB1122_1092 := Aside0.mk (zgt BK1092 hg)
                  have NB1093_1122 := Aside0.mk (zlt BK1093 hg)
                  have NB1122_1093 := Aside0.mk (zgt BK1093 hg)
                  have NB1094_1122 := Aside0.mk (zlt BK1094 hg)
                  have NB1122_1094 := Aside0.mk (zgt BK1094 hg)
                  have NB1107_1122 := Aside0.mk (zlt BK1107 hg)
                  have NB1122_1107 := Aside0.mk (zgt BK1107 hg)
                  have NB1112_1122 := Aside0.mk (zlt BK1112 hg)
                  have NB1122_1112 := Aside0.mk (zgt BK1112 hg)
                  have NB1116_1122 := Aside0.mk (zlt BK1116 hg)
                  have NB1122_1116 := Aside0.mk (zgt BK1116 hg)
                  clear HO_6 HO_7 HO_20 HO_30 BK1092 BK1093 BK1094 BK1107 BK1112 BK1116 HB
                  have HO_6 := n0_; have HO_7 := n1_; have HO_20 := n2_; have HO_30 := n3_; have BK1092 := n4_; have BK1093 := n5_; have BK1094 := n6_; have BK1107 := n7_; have BK1112 := n8_; have BK1116 := n9_; have HB := n10_
                  clear n0_ n1_ n2_ n3_ n4_ n5_ n6_ n7_ n8_ n9_ n10_ hb hbox hg
                  refine hK.out _ _ ⟨zc BK1107 0, zc BK1107 1, zc BK1112 0, zc BK1112 1⟩ (fun hHeld => ?_)
                  clear hK K
                  refine norm_ (a' := ?_) ?_ ?_
                  rotate_left
                  ·
                   show Act.put _ (some 14) _ = _
                   simp only [Act.put, List.setIfInBounds_toArray, List.set_cons_zero, List.set_cons_succ, i64_w, i32_w]; rfl
                  exact norm_ (by simp only [putAll, Act.put, List.setIfInBounds_toArray, List.set_cons_zero, List.set_cons_succ]) (hCont (gb1122) _ ⟨hHeld, (by (with_reducible repeat (first | apply Kd.R_alloc | apply Kd.R_drewN | apply Kd.R_drew)); exact Kd.R_mono HO_20.out (fun _ hk => ⟨hk.1.2.2.1, ⟨hk.1.1, ⟨hk.1.2.1, ⟨hk.1.2.2.2.1, ⟨hk.1.2.2.2.2.1, ⟨hk.1.2.2.2.2.2, hk.2⟩⟩⟩⟩⟩⟩)), (by (with_reducible repeat (first | apply Kd.R_alloc | apply Kd.R_drewN | apply Kd.R_drew)); exact Kd.R_mono HO_30.out (fun _ hk => ⟨hk.1.2.2.1, ⟨hk.1.1, ⟨hk.1.2.1, ⟨hk.1.2.2.2.1, ⟨hk.1.2.2.2.2.1, ⟨hk.1.2.2.2.2.2, hk.2⟩⟩⟩⟩⟩⟩)), (by (with_reducible repeat (first | apply Kd.R_alloc | apply Kd.R_drewN | apply Kd.R_drew)); exact Kd.R_mono HO_6.out (fun _ hk => ⟨hk.1.2.1, ⟨hk.1.2.2.1, ⟨hk.1.1, ⟨hk.1.2.2.2.1, ⟨hk.1.2.2.2.2.1, ⟨hk.1.2.2.2.2.2, hk.2⟩⟩⟩⟩⟩⟩)), (by (with_reducible repeat (first | apply Kd.R_alloc | apply Kd.R_drewN | apply Kd.R_drew)); exact Kd.R_mono HO_7.out (fun _ hk => ⟨hk.1.2.1, ⟨hk.1.2.2.1, ⟨hk.1.1, ⟨hk.1.2.2.2.1, ⟨hk.1.2.2.2.2.1, ⟨hk.1.2.2.2.2.2, hk.2⟩⟩⟩⟩⟩⟩)), (zq1 BK1092), (zq1 BK1093), (zq1 BK1094), (zq1 BK1107), (zq1 BK1112), (zq1 BK1116), (zq1 BK1122), GW1122.out, GE1122.out, NB1092_1122.out, NB1122_1092.out, NB1093_1122.out, NB1122_1093.out, NB1094_1122.out, NB1122_1094.out, NB1107_1122.out, NB1122_1107.out, NB1112_1122.out, NB1122_1112.out, NB1116_1122.out, NB1122_1116.out, (zb1 HB)⟩)
                 ·
                  refine box_step ?hg (N := 14) ?hd (cs := #[.int .i64 0, .int .i64 0]) (t := 27) ?hr ?_; (case hd => rfl); (case hg => rfl); (case hr => first | (go_simp; done) | (go_simp; rfl))
                  intro gb1122 hg w58 hbox hb
                  have n0_ := Aside0.mk (Kd.R_below (Kd.R_elderB (zq3 HO_6) gb1122 (Nat.le_of_eq hg.symm)) hb)
                  have n1_ := Aside0.mk (Kd.R_below (Kd.R_elderB (zq3 HO_7) gb1122 (Nat.le_of_eq hg.symm)) hb)
                  have n2_ := Aside0.mk (Kd.R_below (Kd.R_elderB (zq3 HO_20) gb1122 (Nat.le_of_eq hg.symm)) hb)
                  have n3_ := Aside0.mk (Kd.R_below (Kd.R_elderB (zq3 HO_30) gb1122 (Nat.le_of_eq hg.symm)) hb)
                  have n4_ := Aside0.mk (zbb BK1092 hb)
                  have n5_ := Aside0.mk (zbb BK1093 hb)
                  have n6_ := Aside0.mk (zbb BK1094 hb)
                  have n7_ := Aside0.mk (zbb BK1107 hb)
                  have n8_ := Aside0.mk (zbb BK1112 hb)
                  have n9_ := Aside0.mk (zbb BK1116 hb)
                  have n10_ := Aside0.mk (below_step (zb1 HB) hb)
                  have BK1122 := Aside0.mk (hbox)
                  have GW1122 := Aside0.mk (zge (zb1 HB) hg)
                  have GE1122 := Aside0.mk (zge (zb1 HB) hg)
                  have NB1092_1122 := Aside0.mk (zlt BK1092 hg)
                  have NB1122_1092 := Aside0.mk (zgt BK1092 hg)
                  have NB1093_1122 := Aside0.mk (zlt BK1093 hg)
                  have NB1122_1093 := Aside0.mk (zgt BK1093 hg)
                  have NB1094_1122 := Aside0.mk (zlt BK1094 hg)
                  have NB1122_1094 := Aside0.mk (zgt BK1094 hg)
                  have NB1107_1122 := Aside0.mk (zlt BK1107 hg)
                  have NB1122_1107 := Aside0.mk (zgt BK1107 hg)
                  have NB1112_1122 := Aside0.mk (zlt BK1112 hg)
                  have NB1122_1112 := Aside0.mk (zgt BK1112 hg)
                  have NB1116_1122 := Aside0.mk (zlt BK1116 hg)
                  have NB1122_1116 := Aside0.mk (zgt BK1116 hg)
                  clear HO_6 HO_7 HO_20 HO_30 BK1092 BK1093 BK1094 BK1107 BK1112 BK1116 HB
                  have HO_6 := n0_; have HO_7 := n1_; have HO_20 := n2_; have HO_30 := n3_; have BK1092 := n4_; have BK1093 := n5_; have BK1094 := n6_; have BK1107 := n7_; have BK1112 := n8_; have BK1116 := n9_; have HB := n10_
                  clear n0_ n1_ n2_ n3_ n4_ n5_ n6_ n7_ n8_ n9_ n10_ hb hbox hg
                  refine hK.out _ _ ⟨zc BK1107 0, zc BK1107 1, zc BK1112 0, zc BK1112 1⟩ (fun hHeld => ?_)
                  clear hK K
                  refine norm_ (a' := ?_) ?_ ?_
                  rotate_left
                  ·
                   show Act.put _ (some 14) _ = _
                   simp only [Act.put, List.setIfInBounds_toArray, List.set_cons_zero, List.set_cons_succ, i64_w, i32_w]; rfl
                  refine one_ (i := 3) (N := some 46) #[true, true, true, true, false, false, false, true, false, false] rfl rfl (one_of HT_.out (by kernel_rfl)) (by decide) (fun K hK => ?_)
                  refine goes_ Try.func99 (by kernel_rfl) rfl #[.agg #[.int .i64 t1117, .int .i64 t1118], .agg #[.int .i64 ((rd_T27 y1108 x32_2).f0), .int .i64 ((rd_T27 y1108 x32_2).f1)], .int .i64 16] (by rfl) rfl rfl zq6 ?_
                  with_reducible refine (spec_dyDivide.calls k2 t1117 t1118 ((rd_T27 y1108 x32_2).f0) ((rd_T27 y1108 x32_2).f1) 16 t1119 t1120 true _ A31.out).mono ?_
                  rintro e w59 ⟨rfl, hb⟩
                  refine ⟨_, rfl, ?_⟩
                  replace HO_6 := Aside0.mk (Kd.R_below (zq3 HO_6) hb); replace HO_7 := Aside0.mk (Kd.R_below (zq3 HO_7) hb); replace HO_20 := Aside0.mk (Kd.R_below (zq3 HO_20) hb); replace HO_30 := Aside0.mk (Kd.R_below (zq3 HO_30) hb); replace BK1092 := Aside0.mk (zbb BK1092 hb); replace BK1093 := Aside0.mk (zbb BK1093 hb); replace BK1094 := Aside0.mk (zbb BK1094 hb); replace BK1107 := Aside0.mk (zbb BK1107 hb); replace BK1112 := Aside0.mk (zbb BK1112 hb); replace BK1116 := Aside0.mk (zbb BK1116 hb); replace BK1122 := Aside0.mk (zbb BK1122 hb); replace HB := Aside0.mk (below_step (zb1 HB) hb)
                  (try clear hb)
                  (try clear hb2)
                  (try clear hk)
                  (try clear hi)
                  refine hK.out _ _ ⟨zc BK1107 0, zc BK1107 1, zc BK1112 0, zc BK1112 1⟩ (fun hHeld => ?_)
                  clear hK K
                  refine norm_ (a' := ?_) ?_ ?_
                  rotate_left
                  ·
                   show Act.put _ (some 46) _ = _
                   simp only [Act.put, List.setIfInBounds_toArray, List.set_cons_zero, List.set_cons_succ, i64_w, i32_w]; rfl
                  refine pure_ (i := 4) (N := some 42) (v := ?_) (a' := ?_) #[true, true, true, true, true, false, false, true, false, false] rfl rfl (any_of HT_.out (by kernel_rfl)) (fun _ _ _ h => h) (Or.inl ⟨by rfl, ?_⟩) ?_ ?_
                  rotate_left
                  ·
                   intro w'
                   first | (go_simp; with_reducible rfl) | (go_simp; simp only [Instr.field]; go_simp; simp only [asAgg]; go_simp; rfl)
                  rotate_left
                  ·
                   simp only [Act.put, List.setIfInBounds_toArray, List.set_cons_zero, List.set_cons_succ, i64_w, i32_w]
                   rfl
                  refine pure_ (i := 5) (N := some 47) (v := ?_) (a' := ?_) #[true, true, true, true, true, true, false, true, false, false] rfl rfl (any_of HT_.out (by kernel_rfl)) (fun _ _ _ h => h) (Or.inl ⟨by rfl, ?_⟩) ?_ ?_
                  rotate_left
                  ·
                   intro w'
                   first | (go_simp; with_reducible rfl) | (go_simp; simp only [Instr.field]; go_simp; simp only [asAgg]; go_simp; rfl)
                  rotate_left
                  ·
                   simp only [Act.put, List.setIfInBounds_toArray, List.set_cons_zero, List.set_cons_succ, i64_w, i32_w]
                   rfl
                  refine pure_ (i := 6) (N := some 48) (v := ?_) (a' := ?_) #[true, true, true, true, true, true, true, true, false, false] rfl rfl (any_of HT_.out (by kernel_rfl)) (fun _ _ _ h => h) (Or.inl ⟨by rfl, ?_⟩) ?_ ?_
                  rotate_left
                  ·
                   intro w'
                   first | (go_simp; with_reducible rfl) | (go_simp; simp only [Instr.field]; go_simp; simp only [asAgg]; go_simp; rfl)
                  rotate_left
                  ·
                   simp only [Act.put, List.setIfInBounds_toArray, List.set_cons_zero, List.set_cons_succ, i64_w, i32_w]
                   rfl
                  exact norm_ (by simp only [putAll, Act.put, List.setIfInBounds_toArray, List.set_cons_zero, List.set_cons_succ]) (hCont (gb1122) _ ⟨hHeld, (by (with_reducible repeat (first | apply Kd.R_alloc | apply Kd.R_drewN | apply Kd.R_drew)); exact Kd.R_mono HO_20.out (fun _ hk => ⟨hk.1.2.2.1, ⟨hk.1.1, ⟨hk.1.2.1, ⟨hk.1.2.2.2.1, ⟨hk.1.2.2.2.2.1, ⟨hk.1.2.2.2.2.2, hk.2⟩⟩⟩⟩⟩⟩)), (by (with_reducible repeat (first | apply Kd.R_alloc | apply Kd.R_drewN | apply Kd.R_drew)); exact Kd.R_mono HO_30.out (fun _ hk => ⟨hk.1.2.2.1, ⟨hk.1.1, ⟨hk.1.2.1, ⟨hk.1.2.2.2.1, ⟨hk.1.2.2.2.2.1, ⟨hk.1.2.2.2.2.2, hk.2⟩⟩⟩⟩⟩⟩)), (by (with_reducible repeat (first | apply Kd.R_alloc | apply Kd.R_drewN | apply Kd.R_drew)); exact Kd.R_mono HO_6.out (fun _ hk => ⟨hk.1.2.1, ⟨hk.1.2.2.1, ⟨hk.1.1, ⟨hk.1.2.2.2.1, ⟨hk.1.2.2.2.2.1, ⟨hk.1.2.2.2.2.2, hk.2⟩⟩⟩⟩⟩⟩)), (by (with_reducible repeat (first | apply Kd.R_alloc | apply Kd.R_drewN | apply Kd.R_drew)); exact Kd.R_mono HO_7.out (fun _ hk => ⟨hk.1.2.1, ⟨hk.1.2.2.1, ⟨hk.1.1, ⟨hk.1.2.2.2.1, ⟨hk.1.2.2.2.2.1, ⟨hk.1.2.2.2.2.2, hk.2⟩⟩⟩⟩⟩⟩)), (zq1 BK1092), (zq1 BK1093), (zq1 BK1094), (zq1 BK1107), (zq1 BK1112), (zq1 BK1116), (zq1 BK1122), GW1122.out, GE1122.out, NB1092_1122.out, NB1122_1092.out, NB1093_1122.out, NB1122_1093.out, NB1094_1122.out, NB1122_1094.out, NB1107_1122.out, NB1122_1107.out, NB1112_1122.out, NB1122_1112.out, NB1116_1122.out, NB1122_1116.out, (zb1 HB)⟩)
                ·
                 refine box_step ?hg (N := 14) ?hd (cs := #[.int .i64 0, .int .i64 0]) (t := 27) ?hr ?_; (case hd => rfl); (case hg => rfl); (case hr => first | (go_simp; done) | (go_simp; rfl))
                 intro gb1122 hg w57 hbox hb
                 have n0_ := Aside0.mk (Kd.R_below (Kd.R_elderB (zq3 HO_6) gb1122 (Nat.le_of_eq hg.symm)) hb)
                 have n1_ := Aside0.mk (Kd.R_below (Kd.R_elderB (zq3 HO_7) gb1122 (Nat.le_of_eq hg.symm)) hb)
                 have n2_ := Aside0.mk (Kd.R_below (Kd.R_elderB (zq3 HO_20) gb1122 (Nat.le_of_eq hg.symm)) hb)
                 have n3_ := Aside0.mk (Kd.R_below (Kd.R_elderB (zq3 HO_30) gb1122 (Nat.le_of_eq hg.symm)) hb)
                 have n4_ := Aside0.mk (zbb BK1092 hb)
                 have n5_ := Aside0.mk (zbb BK1093 hb)
                 have n6_ := Aside0.mk (zbb BK1094 hb)
                 have n7_ := Aside0.mk (zbb BK1107 hb)
                 have n8_ := Aside0.mk (zbb BK1112 hb)
                 have n9_ := Aside0.mk (zbb BK1116 hb)
                 have n10_ := Aside0.mk (below_step (zb1 HB) hb)
                 have BK1122 := Aside0.mk (hbox)
                 have GW1122 := Aside0.mk (zge (zb1 HB) hg)
                 have GE1122 := Aside0.mk (zge (zb1 HB) hg)
                 have NB1092_1122 := Aside0.mk (zlt BK1092 hg)
                 have NB1122_1092 := Aside0.mk (zgt BK1092 hg)
                 have NB1093_1122 := Aside0.mk (zlt BK1093 hg)
                 have NB1122_1093 := Aside0.mk (zgt BK1093 hg)
                 have NB1094_1122 := Aside0.mk (zlt BK1094 hg)
                 have NB1122_1094 := Aside0.mk (zgt BK1094 hg)
                 have NB1107_1122 := Aside0.mk (zlt BK1107 hg)
                 have NB1122_1107 := Aside0.mk (zgt BK1107 hg)
                 have NB1112_1122 := Aside0.mk (zlt BK1112 hg)
                 have NB1122_1112 := Aside0.mk (zgt BK1112 hg)
                 have NB1116_1122 := Aside0.mk (zlt BK1116 hg)
                 have NB1122_1116 := Aside0.mk (zgt BK1116 hg)
                 clear HO_6 HO_7 HO_20 HO_30 BK1092 BK1093 BK1094 BK1107 BK1112 BK1116 HB
                 have HO_6 := n0_; have HO_7 := n1_; have HO_20 := n2_; have HO_30 := n3_; have BK1092 := n4_; have BK1093 := n5_; have BK1094 := n6_; have BK1107 := n7_; have BK1112 := n8_; have BK1116 := n9_; have HB := n10_
                 clear n0_ n1_ n2_ n3_ n4_ n5_ n6_ n7_ n8_ n9_ n10_ hb hbox hg
                 refine hK.out _ _ ⟨zc BK1107 0, zc BK1107 1, zc BK1112 0, zc BK1112 1⟩ (fun hHeld => ?_)
                 clear hK K
                 refine norm_ (a' := ?_) ?_ ?_
                 rotate_left
                 ·
                  show Act.put _ (some 14) _ = _
                  simp only [Act.put, List.setIfInBounds_toArray, List.set_cons_zero, List.set_cons_succ, i64_w, i32_w]; rfl
                 refine one_ (i := 1) (N := some 44) #[true, true, true, false, false, false, false, true, false, false] rfl rfl (one_of HT_.out (by kernel_rfl)) (by decide) (fun K hK => ?_)
                 refine goes_ Try.func87 (by kernel_rfl) rfl #[.agg #[.int .i64 ((rd_T27 y1095 x22_1).f0), .int .i64 ((rd_T27 y1095 x22_1).f1)]] (by rfl) rfl rfl zq6 ?_
                 with_reducible refine (spec_dyMinus.calls ((rd_T27 y1095 x22_1).f0) ((rd_T27 y1095 x22_1).f1) t1117 t1118 _ A30.out).mono ?_
                 rintro e w58 ⟨rfl, hb⟩
                 refine ⟨_, rfl, ?_⟩
                 replace HO_6 := Aside0.mk (Kd.R_below (zq3 HO_6) hb); replace HO_7 := Aside0.mk (Kd.R_below (zq3 HO_7) hb); replace HO_20 := Aside0.mk (Kd.R_below (zq3 HO_20) hb); replace HO_30 := Aside0.mk (Kd.R_below (zq3 HO_30) hb); replace BK1092 := Aside0.mk (zbb BK1092 hb); replace BK1093 := Aside0.mk (zbb BK1093 hb); replace BK1094 := Aside0.mk (zbb BK1094 hb); replace BK1107 := Aside0.mk (zbb BK1107 hb); replace BK1112 := Aside0.mk (zbb BK1112 hb); replace BK1116 := Aside0.mk (zbb BK1116 hb); replace BK1122 := Aside0.mk (zbb BK1122 hb); replace HB := Aside0.mk (below_step (zb1 HB) hb)
                 (try clear hb)
                 (try clear hb2)
                 (try clear hk)
                 (try clear hi)
                 refine hK.out _ _ ⟨zc BK1107 0, zc BK1107 1, zc BK1112 0, zc BK1112 1⟩ (fun hHeld => ?_)
                 clear hK K
                 refine norm_ (a' := ?_) ?_ ?_
                 rotate_left
                 ·
                  show Act.put _ (some 44) _ = _
                  simp only [Act.put, List.setIfInBounds_toArray, List.set_cons_zero, List.set_cons_succ, i64_w, i32_w]; rfl
                 refine one_ (i := 3) (N := some 46) #[true, true, true, true, false, false, false, true, false, false] rfl rfl (one_of HT_.out (by kernel_rfl)) (by decide) (fun K hK => ?_)
                 refine goes_ Try.func99 (by kernel_rfl) rfl #[.agg #[.int .i64 t1117, .int .i64 t1118], .agg #[.int .i64 ((rd_T27 y1108 x32_2).f0), .int .i64 ((rd_T27 y1108 x32_2).f1)], .int .i64 16] (by rfl) rfl rfl zq6 ?_
                 with_reducible refine (spec_dyDivide.calls k2 t1117 t1118 ((rd_T27 y1108 x32_2).f0) ((rd_T27 y1108 x32_2).f1) 16 t1119 t1120 true _ A31.out).mono ?_
                 rintro e w59 ⟨rfl, hb⟩
                 refine ⟨_, rfl, ?_⟩
                 replace HO_6 := Aside0.mk (Kd.R_below (zq3 HO_6) hb); replace HO_7 := Aside0.mk (Kd.R_below (zq3 HO_7) hb); replace HO_20 := Aside0.mk (Kd.R_below (zq3 HO_20) hb); replace HO_30 := Aside0.mk (Kd.R_below (zq3 HO_30) hb); replace BK1092 := Aside0.mk (zbb BK1092 hb); replace BK1093 := Aside0.mk (zbb BK1093 hb); replace BK1094 := Aside0.mk (zbb BK1094 hb); replace BK1107 := Aside0.mk (zbb BK1107 hb); replace BK1112 := Aside0.mk (zbb BK1112 hb); replace BK1116 := Aside0.mk (zbb BK1116 hb); replace BK1122 := Aside0.mk (zbb BK1122 hb); replace HB := Aside0.mk (below_step (zb1 HB) hb)
                 (try clear hb)
                 (try clear hb2)
                 (try clear hk)
                 (try clear hi)
                 refine hK.out _ _ ⟨zc BK1107 0, zc BK1107 1, zc BK1112 0, zc BK1112 1⟩ (fun hHeld => ?_)
                 clear hK K
                 refine norm_ (a' := ?_) ?_ ?_
                 rotate_left
                 ·
                  show Act.put _ (some 46) _ = _
                  simp only [Act.put, List.setIfInBounds_toArray, List.set_cons_zero, List.set_cons_succ, i64_w, i32_w]; rfl
                 refine pure_ (i := 4) (N := some 42) (v := ?_) (a' := ?_) #[true, true, true, true, true, false, false, true, false, false] rfl rfl (any_of HT_.out (by kernel_rfl)) (fun _ _ _ h => h) (Or.inl ⟨by rfl, ?_⟩) ?_ ?_
                 rotate_left
                 ·
                  intro w'
                  first | (go_simp; with_reducible rfl) | (go_simp; simp only [Instr.field]; go_simp; simp only [asAgg]; go_simp; rfl)
                 rotate_left
                 ·
                  simp only [Act.put, List.setIfInBounds_toArray, List.set_cons_zero, List.set_cons_succ, i64_w, i32_w]
                  rfl
                 refine pure_ (i := 5) (N := some 47) (v := ?_) (a' := ?_) #[true, true, true, true, true, true, false, true, false, false] rfl rfl (any_of HT_.out (by kernel_rfl)) (fun _ _ _ h => h) (Or.inl ⟨by rfl, ?_⟩) ?_ ?_
                 rotate_left
                 ·
                  intro w'
                  first | (go_simp; with_reducible rfl) | (go_simp; simp only [Instr.field]; go_simp; simp only [asAgg]; go_simp; rfl)
                 rotate_left
                 ·
                  simp only [Act.put, List.setIfInBounds_toArray, List.set_cons_zero, List.set_cons_succ, i64_w, i32_w]
                  rfl
                 refine pure_ (i := 6) (N := some 48) (v := ?_) (a' := ?_) #[true, true, true, true, true, true, true, true, false, false] rfl rfl (any_of HT_.out (by kernel_rfl)) (fun _ _ _ h => h) (Or.inl ⟨by rfl, ?_⟩) ?_ ?_
                 rotate_left
                 ·
                  intro w'
                  first | (go_simp; with_reducible rfl) | (go_simp; simp only [Instr.field]; go_simp; simp only [asAgg]; go_simp; rfl)
                 rotate_left
                 ·
                  simp only [Act.put, List.setIfInBounds_toArray, List.set_cons_zero, List.set_cons_succ, i64_w, i32_w]
                  rfl
                 exact norm_ (by simp only [putAll, Act.put, List.setIfInBounds_toArray, List.set_cons_zero, List.set_cons_succ]) (hCont (gb1122) _ ⟨hHeld, (by (with_reducible repeat (first | apply Kd.R_alloc | apply Kd.R_drewN | apply Kd.R_drew)); exact Kd.R_mono HO_20.out (fun _ hk => ⟨hk.1.2.2.1, ⟨hk.1.1, ⟨hk.1.2.1, ⟨hk.1.2.2.2.1, ⟨hk.1.2.2.2.2.1, ⟨hk.1.2.2.2.2.2, hk.2⟩⟩⟩⟩⟩⟩)), (by (with_reducible repeat (first | apply Kd.R_alloc | apply Kd.R_drewN | apply Kd.R_drew)); exact Kd.R_mono HO_30.out (fun _ hk => ⟨hk.1.2.2.1, ⟨hk.1.1, ⟨hk.1.2.1, ⟨hk.1.2.2.2.1, ⟨hk.1.2.2.2.2.1, ⟨hk.1.2.2.2.2.2, hk.2⟩⟩⟩⟩⟩⟩)), (by (with_reducible repeat (first | apply Kd.R_alloc | apply Kd.R_drewN | apply Kd.R_drew)); exact Kd.R_mono HO_6.out (fun _ hk => ⟨hk.1.2.1, ⟨hk.1.2.2.1, ⟨hk.1.1, ⟨hk.1.2.2.2.1, ⟨hk.1.2.2.2.2.1, ⟨hk.1.2.2.2.2.2, hk.2⟩⟩⟩⟩⟩⟩)), (by (with_reducible repeat (first | apply Kd.R_alloc | apply Kd.R_drewN | apply Kd.R_drew)); exact Kd.R_mono HO_7.out (fun _ hk => ⟨hk.1.2.1, ⟨hk.1.2.2.1, ⟨hk.1.1, ⟨hk.1.2.2.2.1, ⟨hk.1.2.2.2.2.1, ⟨hk.1.2.2.2.2.2, hk.2⟩⟩⟩⟩⟩⟩)), (zq1 BK1092), (zq1 BK1093), (zq1 BK1094), (zq1 BK1107), (zq1 BK1112), (zq1 BK1116), (zq1 BK1122), GW1122.out, GE1122.out, NB1092_1122.out, NB1122_1092.out, NB1093_1122.out, NB1122_1093.out, NB1094_1122.out, NB1122_1094.out, NB1107_1122.out, NB1122_1107.out, NB1112_1122.out, NB1122_1112.out, NB1116_1122.out, NB1122_1116.out, (zb1 HB)⟩)
               rintro gb1122 w60 ⟨hS_, h0_, h1_, h2_, h3_, h4_, h5_, h6_, h7_, h8_, h9_, h10_, h11_, h12_, h13_, h14_, h15_, h16_, h17_, h18_, h19_, h20_, h21_, h22_, h23_, h24_, h25_⟩
               have BK1122 : Aside0 (w60.heap[gb1122]? = some (.cells #[.int .i64 0, .int .i64 0] 27 (0, 0))) := ⟨h10_⟩
               have GW1122 : Aside0 (w.heap.size ≤ gb1122) := ⟨h11_⟩
               have GE1122 : Aside0 (w.heap.size ≤ gb1122) := ⟨h12_⟩
               have NB1092_1122 : Aside0 (gb1092 ≠ gb1122) := ⟨h13_⟩
               have NB1122_1092 : Aside0 (gb1122 ≠ gb1092) := ⟨h14_⟩
               have NB1093_1122 : Aside0 (gb1093 ≠ gb1122) := ⟨h15_⟩
               have NB1122_1093 : Aside0 (gb1122 ≠ gb1093) := ⟨h16_⟩
               have NB1094_1122 : Aside0 (gb1094 ≠ gb1122) := ⟨h17_⟩
               have NB1122_1094 : Aside0 (gb1122 ≠ gb1094) := ⟨h18_⟩
               have NB1107_1122 : Aside0 (gb1107 ≠ gb1122) := ⟨h19_⟩
               have NB1122_1107 : Aside0 (gb1122 ≠ gb1107) := ⟨h20_⟩
               have NB1112_1122 : Aside0 (gb1112 ≠ gb1122) := ⟨h21_⟩
               have NB1122_1112 : Aside0 (gb1122 ≠ gb1112) := ⟨h22_⟩
               have NB1116_1122 : Aside0 (gb1116 ≠ gb1122) := ⟨h23_⟩
               have NB1122_1116 : Aside0 (gb1122 ≠ gb1116) := ⟨h24_⟩
               replace HO_20 : Aside0 (Kd.R k27 27 w60 w.heap.size (fun k_ => some k_ ≠ (.slice (some ad1111) y1108.length co25 : Value).ownBlock ∧ some k_ ≠ (u6 : Value).ownBlock ∧ some k_ ≠ (u7 : Value).ownBlock ∧ k_ ≠ gb1107 ∧ k_ ≠ gb1112 ∧ k_ ≠ gb1116 ∧ k_ ≠ gb1122) (.slice (some ad1106) y1095.length co11) y1095) := ⟨h0_⟩; replace HO_30 : Aside0 (Kd.R k27 27 w60 w.heap.size (fun k_ => some k_ ≠ (.slice (some ad1106) y1095.length co11 : Value).ownBlock ∧ some k_ ≠ (u6 : Value).ownBlock ∧ some k_ ≠ (u7 : Value).ownBlock ∧ k_ ≠ gb1107 ∧ k_ ≠ gb1112 ∧ k_ ≠ gb1116 ∧ k_ ≠ gb1122) (.slice (some ad1111) y1108.length co25) y1108) := ⟨h1_⟩; replace HO_6 : Aside0 (Kd.R k27 27 w60 w.heap.size (fun k_ => some k_ ≠ (.slice (some ad1106) y1095.length co11 : Value).ownBlock ∧ some k_ ≠ (.slice (some ad1111) y1108.length co25 : Value).ownBlock ∧ some k_ ≠ (u7 : Value).ownBlock ∧ k_ ≠ gb1107 ∧ k_ ≠ gb1112 ∧ k_ ≠ gb1116 ∧ k_ ≠ gb1122) u6 x6_2) := ⟨h2_⟩; replace HO_7 : Aside0 (Kd.R k27 27 w60 w.heap.size (fun k_ => some k_ ≠ (.slice (some ad1106) y1095.length co11 : Value).ownBlock ∧ some k_ ≠ (.slice (some ad1111) y1108.length co25 : Value).ownBlock ∧ some k_ ≠ (u6 : Value).ownBlock ∧ k_ ≠ gb1107 ∧ k_ ≠ gb1112 ∧ k_ ≠ gb1116 ∧ k_ ≠ gb1122) u7 x7_2) := ⟨h3_⟩; replace BK1092 : Aside0 (w60.heap[gb1092]? = some (.cells #[.int .i64 a0_0, .int .i64 a0_1, .int .i64 a0_2, .int .i64 a0_3] 29 (0, 0))) := ⟨h4_⟩; replace BK1093 : Aside0 (w60.heap[gb1093]? = some (.cells #[.int .i64 a1_0, .int .i64 a1_1, .int .i64 a1_2, .int .i64 a1_3] 29 (0, 0))) := ⟨h5_⟩; replace BK1094 : Aside0 (w60.heap[gb1094]? = some (.cells #[.int .i64 x1095000_2, .int .i64 x1095001_2, .int .i64 x1095002_2, .int .i64 x1095003_2] 29 (0, 0))) := ⟨h6_⟩; replace BK1107 : Aside0 (w60.heap[gb1107]? = some (.cells #[.int .i64 ((rd_T27 y1095 x22_1).f0), .int .i64 ((rd_T27 y1095 x22_1).f1)] 27 (0, 0))) := ⟨h7_⟩; replace BK1112 : Aside0 (w60.heap[gb1112]? = some (.cells #[.int .i64 ((rd_T27 y1108 x32_2).f0), .int .i64 ((rd_T27 y1108 x32_2).f1)] 27 (0, 0))) := ⟨h8_⟩; replace BK1116 : Aside0 (w60.heap[gb1116]? = some (.cells #[.int .i64 t1113, .int .i64 t1114] 27 (0, 0))) := ⟨h9_⟩; replace HB : Aside0 (Below w.heap.size w w60) := ⟨h25_⟩
               clear h0_ h10_ h11_ h12_ h13_ h14_ h15_ h16_ h17_ h18_ h19_ h1_ h20_ h21_ h22_ h23_ h24_ h25_ h2_ h3_ h4_ h5_ h6_ h7_ h8_ h9_
               have hHeld : w60.cell? ⟨gb1107, 0, none⟩ = some (.int .i64 ((rd_T27 y1095 x22_1).f0)) ∧ w60.cell? ⟨gb1107, 1, none⟩ = some (.int .i64 ((rd_T27 y1095 x22_1).f1)) ∧ w60.cell? ⟨gb1112, 0, none⟩ = some (.int .i64 ((rd_T27 y1108 x32_2).f0)) ∧ w60.cell? ⟨gb1112, 1, none⟩ = some (.int .i64 ((rd_T27 y1108 x32_2).f1)) := hS_
               refine norm_ (a' := ?_) ?_ ?_
               rotate_left
               ·
                simp only [putAll, Act.put, List.setIfInBounds_toArray, List.set_cons_zero, List.set_cons_succ]
                rfl
               refine one_ (i := 8) (N := none) #[true, true, true, true, true, true, true, true, true, false] rfl rfl (one_of HT_.out (by kernel_rfl)) (by decide) (fun K hK => ?_)
               have hs61 : w60.cell? ⟨gb1122, 0, none⟩ = some (.int .i64 0) := zc BK1122 0
               have hfs61 := blk_frozen BK1122.out 0
               have hns61_0 := NB1092_1122.out
               have hns61_1 := NB1093_1122.out
               have hns61_2 := NB1094_1122.out
               have hns61_3 := NB1107_1122.out
               have hns61_4 := NB1112_1122.out
               have hns61_5 := NB1116_1122.out
               have hms61_0 := NB1122_1092.out
               have hms61_1 := NB1122_1093.out
               have hms61_2 := NB1122_1094.out
               have hms61_3 := NB1122_1107.out
               have hms61_4 := NB1122_1112.out
               have hms61_5 := NB1122_1116.out
               have hs62 : w60.cell? ⟨gb1122, 1, none⟩ = some (.int .i64 0) := zc BK1122 1
               have hfs62 := blk_frozen BK1122.out 1
               have hns62_0 := NB1092_1122.out
               have hns62_1 := NB1093_1122.out
               have hns62_2 := NB1094_1122.out
               have hns62_3 := NB1107_1122.out
               have hns62_4 := NB1112_1122.out
               have hns62_5 := NB1116_1122.out
               have hms62_0 := NB1122_1092.out
               have hms62_1 := NB1122_1093.out
               have hms62_2 := NB1122_1094.out
               have hms62_3 := NB1122_1107.out
               have hms62_4 := NB1122_1112.out
               have hms62_5 := NB1122_1116.out
               refine skip_ (w1 := ?_) (by rfl) rfl ?_ ?_
               rotate_left
               ·
                go_simp
                rfl
               refine hK.out _ _ ⟨((cell_far (p := ⟨gb1122, _, none⟩) NB1107_1122.out _).trans (((cell_far (p := ⟨gb1122, _, none⟩) NB1107_1122.out _).trans (hHeld.1)))), ((cell_far (p := ⟨gb1122, _, none⟩) NB1107_1122.out _).trans (((cell_far (p := ⟨gb1122, _, none⟩) NB1107_1122.out _).trans (hHeld.2.1)))), ((cell_far (p := ⟨gb1122, _, none⟩) NB1112_1122.out _).trans (((cell_far (p := ⟨gb1122, _, none⟩) NB1112_1122.out _).trans (hHeld.2.2.1)))), ((cell_far (p := ⟨gb1122, _, none⟩) NB1112_1122.out _).trans (((cell_far (p := ⟨gb1122, _, none⟩) NB1112_1122.out _).trans (hHeld.2.2.2))))⟩ (fun hHeld => ?_)
               clear hK K
               refine pure_ (i := 9) (N := some 15) (v := ?_) (a' := ?_) #[true, true, true, true, true, true, true, true, true, true] rfl rfl (any_of HT_.out (by kernel_rfl)) (fun _ _ _ h => h) (Or.inl ⟨by rfl, ?_⟩) ?_ ?_
               rotate_left
               ·
                intro w'
                first | (go_simp; with_reducible rfl) | (go_simp; simp only [Instr.field]; go_simp; simp only [asAgg]; go_simp; rfl)
               rotate_left
               ·
                simp only [Act.put, List.setIfInBounds_toArray, List.set_cons_zero, List.set_cons_succ, i64_w, i32_w]
                rfl
               refine done_ (done_of HT_.out (by kernel_rfl)) ?_
               have hnb63 := NB1116_1122.out
               have hnc63 := NB1122_1116.out
               have hcz64_0 : w60.cell? ⟨gb1116, 0, none⟩ = some (.int .i64 t1113) := zc BK1116 0
               have hcz64_1 : w60.cell? ⟨gb1116, 1, none⟩ = some (.int .i64 t1114) := zc BK1116 1
               have hfz64_0 := blk_frozen BK1116.out 0
               have hfz64_1 := blk_frozen BK1116.out 1
               try go_wp2_with (first | ((with_reducible refine gate_builtin (b := .append) (xs := #[.tmp 56, .tmp 58]) rfl ?_); at_builtin; refine Kd.R_append k27 (w0 := w) w.heap.size rfl (.tmp 56) (.tmp 58) 68 27 (.agg #[(.int .i64 0), (.int .i64 0)]) 16 rfl Try.underlying68 info27 rfl (by decide) (by omega) u6 x6_2 (⟨t1113, t1114⟩ : S27) [.int .i64 t1113, .int .i64 t1114] (fun k_ => some k_ ≠ (u7 : Value).ownBlock ∧ some k_ ≠ (.slice (some ad1106) y1095.length co11 : Value).ownBlock ∧ some k_ ≠ (.slice (some ad1111) y1108.length co25 : Value).ownBlock ∧ k_ ≠ gb1107 ∧ k_ ≠ gb1112 ∧ k_ ≠ gb1116 ∧ k_ ≠ gb1122) (fun _ => False) rfl (by first | (go_simp; done) | (go_simp; rfl)) ?aP (fun _ hk => hk.elim) ?aF ?aO ?aB ?aS ?aL ?_; (case aP => exact k27_mkM _ _ _ (⟨t1113, t1114⟩ : S27)); (case aB => exact (zb1 HB)); (case aF => exact (fun k_ hk => ⟨Kd.fresh' (Kd.R_lt (by (with_reducible repeat (first | apply Kd.R_alloc | apply Kd.R_drewN | apply Kd.R_drew)); exact (Kd.R_mono (Kd.R_far (p := ⟨gb1122, 1, none⟩) (Kd.R_far (p := ⟨gb1122, 0, none⟩) (Kd.R_mono HO_7.out (fun k_ hk => (⟨hk, hk.2.2.2.2.2.2⟩ : _ ∧ k_ ≠ gb1122))) (fun _ hk => hk.2) (.int .i64 t1119)) (fun _ hk => hk.2) (.int .i64 t1120)) (fun _ h_ => h_.1)))) k_ hk, Kd.fresh' (Kd.R_lt (by (with_reducible repeat (first | apply Kd.R_alloc | apply Kd.R_drewN | apply Kd.R_drew)); exact (Kd.R_mono (Kd.R_far (p := ⟨gb1122, 1, none⟩) (Kd.R_far (p := ⟨gb1122, 0, none⟩) (Kd.R_mono HO_20.out (fun k_ hk => (⟨hk, hk.2.2.2.2.2.2⟩ : _ ∧ k_ ≠ gb1122))) (fun _ hk => hk.2) (.int .i64 t1119)) (fun _ hk => hk.2) (.int .i64 t1120)) (fun _ h_ => h_.1)))) k_ hk, Kd.fresh' (Kd.R_lt (by (with_reducible repeat (first | apply Kd.R_alloc | apply Kd.R_drewN | apply Kd.R_drew)); exact (Kd.R_mono (Kd.R_far (p := ⟨gb1122, 1, none⟩) (Kd.R_far (p := ⟨gb1122, 0, none⟩) (Kd.R_mono HO_30.out (fun k_ hk => (⟨hk, hk.2.2.2.2.2.2⟩ : _ ∧ k_ ≠ gb1122))) (fun _ hk => hk.2) (.int .i64 t1119)) (fun _ hk => hk.2) (.int .i64 t1120)) (fun _ h_ => h_.1)))) k_ hk, Kd.freshB (g := gb1107) (o := .cells #[.int .i64 ((rd_T27 y1095 x22_1).f0), .int .i64 ((rd_T27 y1095 x22_1).f1)] 27 (0, 0)) (zq5 BK1107) k_ hk, Kd.freshB (g := gb1112) (o := .cells #[.int .i64 ((rd_T27 y1108 x32_2).f0), .int .i64 ((rd_T27 y1108 x32_2).f1)] 27 (0, 0)) (zq5 BK1112) k_ hk, Kd.freshB (g := gb1116) (o := .cells #[.int .i64 t1113, .int .i64 t1114] 27 (0, 0)) (zq5 BK1116) k_ hk, Kd.freshB (g := gb1122) (o := .cells #[.int .i64 t1119, .int .i64 t1120] 27 (0, 0)) (by (with_reducible repeat (first | refine blk_drewN ?_ _ | refine blk_drew ?_ | refine blk_alloc ?_ _)); refine blk_put (cs := #[.int .i64 t1119, .int .i64 0]) ?_ 1 _ rfl; (with_reducible repeat (first | refine blk_drewN ?_ _ | refine blk_drew ?_ | refine blk_alloc ?_ _)); refine blk_put (cs := #[.int .i64 0, .int .i64 0]) ?_ 0 _ rfl; (with_reducible repeat (first | refine blk_drewN ?_ _ | refine blk_drew ?_ | refine blk_alloc ?_ _)); exact BK1122.out) k_ hk⟩)); (case aO => exact (by (with_reducible repeat (first | apply Kd.R_alloc | apply Kd.R_drewN | apply Kd.R_drew)); exact Kd.R_mono (Kd.R_far (p := ⟨gb1122, 1, none⟩) (Kd.R_far (p := ⟨gb1122, 0, none⟩) (Kd.R_mono HO_6.out (fun k_ hk => (⟨hk, hk.2.2.2.2.2.2⟩ : _ ∧ k_ ≠ gb1122))) (fun _ hk => hk.2) (.int .i64 t1119)) (fun _ hk => hk.2) (.int .i64 t1120)) (fun _ hk => ⟨hk.1.2.2.1, ⟨hk.1.1, ⟨hk.1.2.1, ⟨hk.1.2.2.2.1, ⟨hk.1.2.2.2.2.1, ⟨hk.1.2.2.2.2.2.1, hk.1.2.2.2.2.2.2⟩⟩⟩⟩⟩⟩))); (case aS => exact (below_size (zb1 HB))); (case aL => have := LMc34.out; omega); intro v1124 w65 ho hb hg hat; rw [← Ny1123.out] at ho; have HO1125 := Aside0.mk (ho); replace HO_7 := Aside0.mk (Kd.R_after (ok := (fun k_ => some k_ ≠ (.slice (some ad1106) y1095.length co11 : Value).ownBlock ∧ some k_ ≠ (.slice (some ad1111) y1108.length co25 : Value).ownBlock ∧ k_ ≠ gb1107 ∧ k_ ≠ gb1112 ∧ k_ ≠ gb1116 ∧ k_ ≠ gb1122)) (by (with_reducible repeat (first | apply Kd.R_alloc | apply Kd.R_drewN | apply Kd.R_drew)); exact Kd.R_mono (Kd.R_far (p := ⟨gb1122, 1, none⟩) (Kd.R_far (p := ⟨gb1122, 0, none⟩) (Kd.R_mono HO_7.out (fun k_ hk => (⟨hk, hk.2.2.2.2.2.2⟩ : _ ∧ k_ ≠ gb1122))) (fun _ hk => hk.2) (.int .i64 t1119)) (fun _ hk => hk.2) (.int .i64 t1120)) (fun _ hk => ⟨⟨hk.1.1, ⟨hk.1.2.1, ⟨hk.1.2.2.2.1, ⟨hk.1.2.2.2.2.1, ⟨hk.1.2.2.2.2.2.1, hk.1.2.2.2.2.2.2⟩⟩⟩⟩⟩, hk.1.2.2.1⟩)) hg hat); replace HO_20 := Aside0.mk (Kd.R_after (ok := (fun k_ => some k_ ≠ (u7 : Value).ownBlock ∧ some k_ ≠ (.slice (some ad1111) y1108.length co25 : Value).ownBlock ∧ k_ ≠ gb1107 ∧ k_ ≠ gb1112 ∧ k_ ≠ gb1116 ∧ k_ ≠ gb1122)) (by (with_reducible repeat (first | apply Kd.R_alloc | apply Kd.R_drewN | apply Kd.R_drew)); exact Kd.R_mono (Kd.R_far (p := ⟨gb1122, 1, none⟩) (Kd.R_far (p := ⟨gb1122, 0, none⟩) (Kd.R_mono HO_20.out (fun k_ hk => (⟨hk, hk.2.2.2.2.2.2⟩ : _ ∧ k_ ≠ gb1122))) (fun _ hk => hk.2) (.int .i64 t1119)) (fun _ hk => hk.2) (.int .i64 t1120)) (fun _ hk => ⟨⟨hk.1.2.2.1, ⟨hk.1.1, ⟨hk.1.2.2.2.1, ⟨hk.1.2.2.2.2.1, ⟨hk.1.2.2.2.2.2.1, hk.1.2.2.2.2.2.2⟩⟩⟩⟩⟩, hk.1.2.1⟩)) hg hat); replace HO_30 := Aside0.mk (Kd.R_after (ok := (fun k_ => some k_ ≠ (u7 : Value).ownBlock ∧ some k_ ≠ (.slice (some ad1106) y1095.length co11 : Value).ownBlock ∧ k_ ≠ gb1107 ∧ k_ ≠ gb1112 ∧ k_ ≠ gb1116 ∧ k_ ≠ gb1122)) (by (with_reducible repeat (first | apply Kd.R_alloc | apply Kd.R_drewN | apply Kd.R_drew)); exact Kd.R_mono (Kd.R_far (p := ⟨gb1122, 1, none⟩) (Kd.R_far (p := ⟨gb1122, 0, none⟩) (Kd.R_mono HO_30.out (fun k_ hk => (⟨hk, hk.2.2.2.2.2.2⟩ : _ ∧ k_ ≠ gb1122))) (fun _ hk => hk.2) (.int .i64 t1119)) (fun _ hk => hk.2) (.int .i64 t1120)) (fun _ hk => ⟨⟨hk.1.2.2.1, ⟨hk.1.1, ⟨hk.1.2.2.2.1, ⟨hk.1.2.2.2.2.1, ⟨hk.1.2.2.2.2.2.1, hk.1.2.2.2.2.2.2⟩⟩⟩⟩⟩, hk.1.2.1⟩)) hg hat); replace BK1092 := Aside0.mk (blk_grown (g := gb1092) (o := .cells #[.int .i64 a0_0, .int .i64 a0_1, .int .i64 a0_2, .int .i64 a0_3] 29 (0, 0)) (zq5 BK1092) hg (Kd.R_ne HO_6.out BK1092.out (by decide))); replace BK1093 := Aside0.mk (blk_grown (g := gb1093) (o := .cells #[.int .i64 a1_0, .int .i64 a1_1, .int .i64 a1_2, .int .i64 a1_3] 29 (0, 0)) (zq5 BK1093) hg (Kd.R_ne HO_6.out BK1093.out (by decide))); replace BK1094 := Aside0.mk (blk_grown (g := gb1094) (o := .cells #[.int .i64 x1095000_2, .int .i64 x1095001_2, .int .i64 x1095002_2, .int .i64 x1095003_2] 29 (0, 0)) (zq5 BK1094) hg (Kd.R_ne HO_6.out BK1094.out (by decide))); replace BK1107 := Aside0.mk (blk_grown (g := gb1107) (o := .cells #[.int .i64 ((rd_T27 y1095 x22_1).f0), .int .i64 ((rd_T27 y1095 x22_1).f1)] 27 (0, 0)) (zq5 BK1107) hg (Kd.R_away HO_6.out (fun _ hk => hk.2.2.2.1))); replace BK1112 := Aside0.mk (blk_grown (g := gb1112) (o := .cells #[.int .i64 ((rd_T27 y1108 x32_2).f0), .int .i64 ((rd_T27 y1108 x32_2).f1)] 27 (0, 0)) (zq5 BK1112) hg (Kd.R_away HO_6.out (fun _ hk => hk.2.2.2.2.1))); replace BK1116 := Aside0.mk (blk_grown (g := gb1116) (o := .cells #[.int .i64 t1113, .int .i64 t1114] 27 (0, 0)) (zq5 BK1116) hg (Kd.R_away HO_6.out (fun _ hk => hk.2.2.2.2.2.1))); replace BK1122 := Aside0.mk (blk_grown (g := gb1122) (o := .cells #[.int .i64 t1119, .int .i64 t1120] 27 (0, 0)) (by (with_reducible repeat (first | refine blk_drewN ?_ _ | refine blk_drew ?_ | refine blk_alloc ?_ _)); refine blk_put (cs := #[.int .i64 t1119, .int .i64 0]) ?_ 1 _ rfl; (with_reducible repeat (first | refine blk_drewN ?_ _ | refine blk_drew ?_ | refine blk_alloc ?_ _)); refine blk_put (cs := #[.int .i64 0, .int .i64 0]) ?_ 0 _ rfl; (with_reducible repeat (first | refine blk_drewN ?_ _ | refine blk_drew ?_ | refine blk_alloc ?_ _)); exact BK1122.out) hg (Kd.R_away HO_6.out (fun _ hk => hk.2.2.2.2.2.2))); replace HB := Aside0.mk (hb); clear HO_6; clear ho hb hg hat; have hnb66 := NB1122_1092.out; have hnc66 := NB1092_1122.out; have hnb67 := NB1122_1093.out; have hnc67 := NB1093_1122.out; have hnb68 := NB1122_1094.out; have hnc68 := NB1094_1122.out; have hnb69 := NB1122_1107.out; have hnc69 := NB1107_1122.out; have hnb70 := NB1122_1112.out; have hnc70 := NB1112_1122.out; have hcz71_0 : w65.cell? ⟨gb1122, 0, none⟩ = some (.int .i64 t1119) := zc BK1122 0; have hcz71_1 : w65.cell? ⟨gb1122, 1, none⟩ = some (.int .i64 t1120) := zc BK1122 1; have hfz71_0 := blk_frozen BK1122.out 0; have hfz71_1 := blk_frozen BK1122.out 1) | ((with_reducible refine gate_callee (f := 87) rfl ?_); refine goesL_ (some 62) rfl rfl Try.func87 (by kernel_rfl) rfl #[.agg #[.int .i64 t1119, .int .i64 t1120]] rfl zq6 ?_; (with_reducible refine (spec_dyMinus.calls t1119 t1120 t1126 t1127 _ A35.out).mono ?_); rintro e w72 ⟨rfl, hb⟩; refine ⟨_, rfl, ?_⟩; replace HO_7 := Aside0.mk (Kd.R_below (zq3 HO_7) hb); replace HO_20 := Aside0.mk (Kd.R_below (zq3 HO_20) hb); replace HO_30 := Aside0.mk (Kd.R_below (zq3 HO_30) hb); replace HO1125 := Aside0.mk (Kd.R_below (zq3 HO1125) hb); replace BK1092 := Aside0.mk (zbb BK1092 hb); replace BK1093 := Aside0.mk (zbb BK1093 hb); replace BK1094 := Aside0.mk (zbb BK1094 hb); replace BK1107 := Aside0.mk (zbb BK1107 hb); replace BK1112 := Aside0.mk (zbb BK1112 hb); replace BK1116 := Aside0.mk (zbb BK1116 hb); replace BK1122 := Aside0.mk (zbb BK1122 hb); replace HB := Aside0.mk (below_step (zb1 HB) hb); (try clear hb); (try clear hb2); (try clear hk); (try clear hi)) | ((with_reducible refine gate_builtin (b := .append) (xs := #[.tmp 60, .tmp 63]) rfl ?_); at_builtin; refine Kd.R_append k27 (w0 := w) w.heap.size rfl (.tmp 60) (.tmp 63) 68 27 (.agg #[(.int .i64 0), (.int .i64 0)]) 16 rfl Try.underlying68 info27 rfl (by decide) (by omega) u7 x7_2 (⟨t1126, t1127⟩ : S27) [.int .i64 t1126, .int .i64 t1127] (fun k_ => some k_ ≠ (.slice (some ad1106) y1095.length co11 : Value).ownBlock ∧ some k_ ≠ (.slice (some ad1111) y1108.length co25 : Value).ownBlock ∧ some k_ ≠ (v1124 : Value).ownBlock ∧ k_ ≠ gb1107 ∧ k_ ≠ gb1112 ∧ k_ ≠ gb1116 ∧ k_ ≠ gb1122) (fun _ => False) rfl rfl ?aP (fun _ hk => hk.elim) ?aF ?aO ?aB ?aS ?aL ?_; (case aP => exact k27_mkM _ _ _ (⟨t1126, t1127⟩ : S27)); (case aB => exact (zb1 HB)); (case aF => exact (fun k_ hk => ⟨Kd.fresh' (Kd.R_lt (zq3 HO_20)) k_ hk, Kd.fresh' (Kd.R_lt (zq3 HO_30)) k_ hk, Kd.fresh' (Kd.R_lt (zq3 HO1125)) k_ hk, Kd.freshB (g := gb1107) (o := .cells #[.int .i64 ((rd_T27 y1095 x22_1).f0), .int .i64 ((rd_T27 y1095 x22_1).f1)] 27 (0, 0)) (zq1 BK1107) k_ hk, Kd.freshB (g := gb1112) (o := .cells #[.int .i64 ((rd_T27 y1108 x32_2).f0), .int .i64 ((rd_T27 y1108 x32_2).f1)] 27 (0, 0)) (zq1 BK1112) k_ hk, Kd.freshB (g := gb1116) (o := .cells #[.int .i64 t1113, .int .i64 t1114] 27 (0, 0)) (zq1 BK1116) k_ hk, Kd.freshB (g := gb1122) (o := .cells #[.int .i64 t1119, .int .i64 t1120] 27 (0, 0)) (zq1 BK1122) k_ hk⟩)); (case aO => exact (by (with_reducible repeat (first | apply Kd.R_alloc | apply Kd.R_drewN | apply Kd.R_drew)); exact Kd.R_mono HO_7.out (fun _ hk => ⟨hk.1.1, ⟨hk.1.2.1, ⟨hk.2, ⟨hk.1.2.2.1, ⟨hk.1.2.2.2.1, ⟨hk.1.2.2.2.2.1, hk.1.2.2.2.2.2⟩⟩⟩⟩⟩⟩))); (case aS => exact (below_size (zb1 HB))); (case aL => have := LMc36.out; omega); intro v1129 w73 ho hb hg hat; rw [← Ny1128.out] at ho; have HO1130 := Aside0.mk (ho); replace HO_20 := Aside0.mk (Kd.R_after (ok := (fun k_ => some k_ ≠ (.slice (some ad1111) y1108.length co25 : Value).ownBlock ∧ some k_ ≠ (v1124 : Value).ownBlock ∧ k_ ≠ gb1107 ∧ k_ ≠ gb1112 ∧ k_ ≠ gb1116 ∧ k_ ≠ gb1122)) (by (with_reducible repeat (first | apply Kd.R_alloc | apply Kd.R_drewN | apply Kd.R_drew)); exact Kd.R_mono HO_20.out (fun _ hk => ⟨⟨hk.1.2.1, ⟨hk.2, ⟨hk.1.2.2.1, ⟨hk.1.2.2.2.1, ⟨hk.1.2.2.2.2.1, hk.1.2.2.2.2.2⟩⟩⟩⟩⟩, hk.1.1⟩)) hg hat); replace HO_30 := Aside0.mk (Kd.R_after (ok := (fun k_ => some k_ ≠ (.slice (some ad1106) y1095.length co11 : Value).ownBlock ∧ some k_ ≠ (v1124 : Value).ownBlock ∧ k_ ≠ gb1107 ∧ k_ ≠ gb1112 ∧ k_ ≠ gb1116 ∧ k_ ≠ gb1122)) (by (with_reducible repeat (first | apply Kd.R_alloc | apply Kd.R_drewN | apply Kd.R_drew)); exact Kd.R_mono HO_30.out (fun _ hk => ⟨⟨hk.1.2.1, ⟨hk.2, ⟨hk.1.2.2.1, ⟨hk.1.2.2.2.1, ⟨hk.1.2.2.2.2.1, hk.1.2.2.2.2.2⟩⟩⟩⟩⟩, hk.1.1⟩)) hg hat); replace BK1092 := Aside0.mk (blk_grown (g := gb1092) (o := .cells #[.int .i64 a0_0, .int .i64 a0_1, .int .i64 a0_2, .int .i64 a0_3] 29 (0, 0)) (zq1 BK1092) hg (Kd.R_ne HO_7.out BK1092.out (by decide))); replace BK1093 := Aside0.mk (blk_grown (g := gb1093) (o := .cells #[.int .i64 a1_0, .int .i64 a1_1, .int .i64 a1_2, .int .i64 a1_3] 29 (0, 0)) (zq1 BK1093) hg (Kd.R_ne HO_7.out BK1093.out (by decide))); replace BK1094 := Aside0.mk (blk_grown (g := gb1094) (o := .cells #[.int .i64 x1095000_2, .int .i64 x1095001_2, .int .i64 x1095002_2, .int .i64 x1095003_2] 29 (0, 0)) (zq1 BK1094) hg (Kd.R_ne HO_7.out BK1094.out (by decide))); replace BK1107 := Aside0.mk (blk_grown (g := gb1107) (o := .cells #[.int .i64 ((rd_T27 y1095 x22_1).f0), .int .i64 ((rd_T27 y1095 x22_1).f1)] 27 (0, 0)) (zq1 BK1107) hg (Kd.R_away HO_7.out (fun _ hk => hk.1.2.2.1))); replace BK1112 := Aside0.mk (blk_grown (g := gb1112) (o := .cells #[.int .i64 ((rd_T27 y1108 x32_2).f0), .int .i64 ((rd_T27 y1108 x32_2).f1)] 27 (0, 0)) (zq1 BK1112) hg (Kd.R_away HO_7.out (fun _ hk => hk.1.2.2.2.1))); replace BK1116 := Aside0.mk (blk_grown (g := gb1116) (o := .cells #[.int .i64 t1113, .int .i64 t1114] 27 (0, 0)) (zq1 BK1116) hg (Kd.R_away HO_7.out (fun _ hk => hk.1.2.2.2.2.1))); replace BK1122 := Aside0.mk (blk_grown (g := gb1122) (o := .cells #[.int .i64 t1119, .int .i64 t1120] 27 (0, 0)) (zq1 BK1122) hg (Kd.R_away HO_7.out (fun _ hk => hk.1.2.2.2.2.2))); replace HO1125 := Aside0.mk (Kd.R_after (ok := (fun k_ => some k_ ≠ (.slice (some ad1106) y1095.length co11 : Value).ownBlock ∧ some k_ ≠ (.slice (some ad1111) y1108.length co25 : Value).ownBlock ∧ k_ ≠ gb1107 ∧ k_ ≠ gb1112 ∧ k_ ≠ gb1116 ∧ k_ ≠ gb1122)) (by (with_reducible repeat (first | apply Kd.R_alloc | apply Kd.R_drewN | apply Kd.R_drew)); exact Kd.R_mono HO1125.out (fun _ hk => ⟨⟨hk.2.1, ⟨hk.2.2.1, ⟨hk.2.2.2.1, ⟨hk.2.2.2.2.1, ⟨hk.2.2.2.2.2.1, hk.2.2.2.2.2.2⟩⟩⟩⟩⟩, hk.1⟩)) hg hat); replace HB := Aside0.mk (hb); clear HO_7; clear ho hb hg hat))
               go_roundg k2
               case measure => have := HK1.out; have := HK2.out; omega
               case rel => exact ⟨(y1123), (y1128), (wrap64 (x32_2 + 1)), (x1095000_2), (x1095001_2), (x1095002_2), (x1095003_2), (by first | rfl | (simp; done) | (simp [*]; done)), H', ⟨by have := HK1.out; have := HK2.out; omega⟩, ⟨by (with_reducible repeat (first | apply Kd.R_alloc | apply Kd.R_drewN | apply Kd.R_drew)); exact Kd.R_mono HO1125.out (fun _ hk => ⟨hk.2, ⟨hk.1.1, ⟨hk.1.2.1, hk.1.2.2.1⟩⟩⟩)⟩, ⟨by (with_reducible repeat (first | apply Kd.R_alloc | apply Kd.R_drewN | apply Kd.R_drew)); exact Kd.R_mono HO1130.out (fun _ hk => ⟨hk.2.2.1, ⟨hk.1, ⟨hk.2.1, hk.2.2.2.1⟩⟩⟩)⟩, ⟨by (with_reducible repeat (first | apply Kd.R_alloc | apply Kd.R_drewN | apply Kd.R_drew)); exact Kd.R_mono HO_20.out (fun _ hk => ⟨hk.1.2.1, ⟨hk.2, ⟨hk.1.1, hk.1.2.2.1⟩⟩⟩)⟩, ⟨by (with_reducible repeat (first | apply Kd.R_alloc | apply Kd.R_drewN | apply Kd.R_drew)); exact Kd.R_mono HO_30.out (fun _ hk => ⟨hk.1.2.1, ⟨hk.2, ⟨hk.1.1, hk.1.2.2.1⟩⟩⟩)⟩, ⟨by (with_reducible repeat (first | refine blk_drewN ?_ _ | refine blk_drew ?_ | refine blk_alloc ?_ _)); exact BK1092.out⟩, ⟨by (with_reducible repeat (first | refine blk_drewN ?_ _ | refine blk_drew ?_ | refine blk_alloc ?_ _)); exact BK1093.out⟩, ⟨by (with_reducible repeat (first | refine blk_drewN ?_ _ | refine blk_drew ?_ | refine blk_alloc ?_ _)); exact BK1094.out⟩, ⟨by (with_reducible repeat (first | refine blk_drewN ?_ _ | refine blk_drew ?_ | refine blk_alloc ?_ _)); exact BK1107.out⟩, ⟨(zb1 HB)⟩⟩
              ·
               rw [if_neg c36] at H
               exact absurd H (by simp)
             ·
              rw [if_neg c34] at H
              exact absurd H (by simp)
            ·
             replace c33 := Bool.eq_false_iff.mpr c33
             subst c33
             have H1 : (some (0, 0, 0, 0, false)) = some (r1, r2, r3, r4, r5) := by rw [if_neg (show ¬ (false = true) by decide)] at H; exact H
             clear H
             have H := H1
             clear H1
             simp only [Option.some.injEq, Prod.mk.injEq] at H
             obtain ⟨rfl, rfl, rfl, rfl, rfl⟩ := H
             have p1111 : 0 ≤ (x32_2 : Int) := of_decide_eq_true (by first | (with_reducible assumption) | assumption)
             have q1111 : x32_2 < (y1108.length : Int) := of_decide_eq_true (by first | (with_reducible assumption) | assumption)
             obtain ⟨ad1111, e1111, hx1111_0, hx1111_1⟩ := at_T27 (Kd.R_reads' HO_30.out).2.2 x32_2 p1111 q1111
             cases e1111
             replace p1111 := eq_true p1111
             replace q1111 := eq_true q1111
             try go_wp2_with (first | ((with_reducible refine gate_dst (N := 11) rfl ?_); refine zbe (N := 11) (cs := #[.int .i64 0, .int .i64 0]) (t := 27) ?_; intro gb1112 hg w74 hbox hb; have BK1112 := Aside0.mk (hbox); have GW1112 := Aside0.mk (zge (zb1 HB) hg); have GE1112 := GW1112; have NB1092_1112 := Aside0.mk (zlt BK1092 hg); have NB1112_1092 := Aside0.mk (zgt BK1092 hg); have NB1093_1112 := Aside0.mk (zlt BK1093 hg); have NB1112_1093 := Aside0.mk (zgt BK1093 hg); have NB1094_1112 := Aside0.mk (zlt BK1094 hg); have NB1112_1094 := Aside0.mk (zgt BK1094 hg); have NB1107_1112 := Aside0.mk (zlt BK1107 hg); have NB1112_1107 := Aside0.mk (zgt BK1107 hg); replace HO_6 := Aside0.mk (Kd.R_below (Kd.R_elderB (zq3 HO_6) gb1112 (Nat.le_of_eq hg.symm)) hb); replace HO_7 := Aside0.mk (Kd.R_below (Kd.R_elderB (zq3 HO_7) gb1112 (Nat.le_of_eq hg.symm)) hb); replace HO_20 := Aside0.mk (Kd.R_below (Kd.R_elderB (zq3 HO_20) gb1112 (Nat.le_of_eq hg.symm)) hb); replace HO_30 := Aside0.mk (Kd.R_below (Kd.R_elderB (zq3 HO_30) gb1112 (Nat.le_of_eq hg.symm)) hb); replace BK1092 := Aside0.mk (zbb BK1092 hb); replace BK1093 := Aside0.mk (zbb BK1093 hb); replace BK1094 := Aside0.mk (zbb BK1094 hb); replace BK1107 := Aside0.mk (zbb BK1107 hb); replace HB := Aside0.mk (below_step (zb1 HB) hb); clear hb hbox hg; have hnb75 := NB1112_1092.out; have hnc75 := NB1092_1112.out; have hnb76 := NB1112_1093.out; have hnc76 := NB1093_1112.out; have hnb77 := NB1112_1094.out; have hnc77 := NB1094_1112.out; have hnb78 := NB1112_1107.out; have hnc78 := NB1107_1112.out; have hcz79_0 : w74.cell? ⟨gb1112, 0, none⟩ = some (.int .i64 0) := zc BK1112 0; have hcz79_1 : w74.cell? ⟨gb1112, 1, none⟩ = some (.int .i64 0) := zc BK1112 1; have hfz79_0 := blk_frozen BK1112.out 0; have hfz79_1 := blk_frozen BK1112.out 1; have hnb80 := NB1107_1092.out; have hnc80 := NB1092_1107.out; have hnb81 := NB1107_1093.out; have hnc81 := NB1093_1107.out; have hnb82 := NB1107_1094.out; have hnc82 := NB1094_1107.out; have hcz83_0 : w74.cell? ⟨gb1107, 0, none⟩ = some (.int .i64 ((rd_T27 y1095 x22_1).f0)) := zc BK1107 0; have hcz83_1 : w74.cell? ⟨gb1107, 1, none⟩ = some (.int .i64 ((rd_T27 y1095 x22_1).f1)) := zc BK1107 1; have hfz83_0 := blk_frozen BK1107.out 0; have hfz83_1 := blk_frozen BK1107.out 1) | ((with_reducible refine gate_callee (f := 99) rfl ?_); refine goesL_ (some 39) rfl rfl Try.func99 (by kernel_rfl) rfl #[.agg #[.int .i64 ((rd_T27 y1095 x22_1).f0), .int .i64 ((rd_T27 y1095 x22_1).f1)], .agg #[.int .i64 ((rd_T27 y1108 x32_2).f0), .int .i64 ((rd_T27 y1108 x32_2).f1)], .int .i64 16] rfl zq6 ?_; (with_reducible refine (spec_dyDivide.calls k2 ((rd_T27 y1095 x22_1).f0) ((rd_T27 y1095 x22_1).f1) ((rd_T27 y1108 x32_2).f0) ((rd_T27 y1108 x32_2).f1) 16 t1113 t1114 true _ A29.out).mono ?_); rintro e w84 ⟨rfl, hb⟩; refine ⟨_, rfl, ?_⟩; replace HO_6 := Aside0.mk (Kd.R_below (by (with_reducible repeat (first | apply Kd.R_alloc | apply Kd.R_drewN | apply Kd.R_drew)); exact (Kd.R_mono (Kd.R_far (p := ⟨gb1112, 1, none⟩) (Kd.R_far (p := ⟨gb1112, 0, none⟩) (Kd.R_mono HO_6.out (fun k_ hk => (⟨hk, hk.2⟩ : _ ∧ k_ ≠ gb1112))) (fun _ hk => hk.2) (.int .i64 ((rd_T27 y1108 x32_2).f0))) (fun _ hk => hk.2) (.int .i64 ((rd_T27 y1108 x32_2).f1))) (fun _ h_ => h_.1))) hb); replace HO_7 := Aside0.mk (Kd.R_below (by (with_reducible repeat (first | apply Kd.R_alloc | apply Kd.R_drewN | apply Kd.R_drew)); exact (Kd.R_mono (Kd.R_far (p := ⟨gb1112, 1, none⟩) (Kd.R_far (p := ⟨gb1112, 0, none⟩) (Kd.R_mono HO_7.out (fun k_ hk => (⟨hk, hk.2⟩ : _ ∧ k_ ≠ gb1112))) (fun _ hk => hk.2) (.int .i64 ((rd_T27 y1108 x32_2).f0))) (fun _ hk => hk.2) (.int .i64 ((rd_T27 y1108 x32_2).f1))) (fun _ h_ => h_.1))) hb); replace HO_20 := Aside0.mk (Kd.R_below (by (with_reducible repeat (first | apply Kd.R_alloc | apply Kd.R_drewN | apply Kd.R_drew)); exact (Kd.R_mono (Kd.R_far (p := ⟨gb1112, 1, none⟩) (Kd.R_far (p := ⟨gb1112, 0, none⟩) (Kd.R_mono HO_20.out (fun k_ hk => (⟨hk, hk.2⟩ : _ ∧ k_ ≠ gb1112))) (fun _ hk => hk.2) (.int .i64 ((rd_T27 y1108 x32_2).f0))) (fun _ hk => hk.2) (.int .i64 ((rd_T27 y1108 x32_2).f1))) (fun _ h_ => h_.1))) hb); replace HO_30 := Aside0.mk (Kd.R_below (by (with_reducible repeat (first | apply Kd.R_alloc | apply Kd.R_drewN | apply Kd.R_drew)); exact (Kd.R_mono (Kd.R_far (p := ⟨gb1112, 1, none⟩) (Kd.R_far (p := ⟨gb1112, 0, none⟩) (Kd.R_mono HO_30.out (fun k_ hk => (⟨hk, hk.2⟩ : _ ∧ k_ ≠ gb1112))) (fun _ hk => hk.2) (.int .i64 ((rd_T27 y1108 x32_2).f0))) (fun _ hk => hk.2) (.int .i64 ((rd_T27 y1108 x32_2).f1))) (fun _ h_ => h_.1))) hb); replace BK1092 := Aside0.mk (blk_below (g := gb1092) (o := .cells #[.int .i64 a0_0, .int .i64 a0_1, .int .i64 a0_2, .int .i64 a0_3] 29 (0, 0)) (zq5 BK1092) hb); replace BK1093 := Aside0.mk (blk_below (g := gb1093) (o := .cells #[.int .i64 a1_0, .int .i64 a1_1, .int .i64 a1_2, .int .i64 a1_3] 29 (0, 0)) (zq5 BK1093) hb); replace BK1094 := Aside0.mk (blk_below (g := gb1094) (o := .cells #[.int .i64 x1095000_2, .int .i64 x1095001_2, .int .i64 x1095002_2, .int .i64 x1095003_2] 29 (0, 0)) (zq5 BK1094) hb); replace BK1107 := Aside0.mk (blk_below (g := gb1107) (o := .cells #[.int .i64 ((rd_T27 y1095 x22_1).f0), .int .i64 ((rd_T27 y1095 x22_1).f1)] 27 (0, 0)) (zq5 BK1107) hb); replace BK1112 := Aside0.mk (blk_below (g := gb1112) (o := .cells #[.int .i64 ((rd_T27 y1108 x32_2).f0), .int .i64 ((rd_T27 y1108 x32_2).f1)] 27 (0, 0)) (by (with_reducible repeat (first | refine blk_drewN ?_ _ | refine blk_drew ?_ | refine blk_alloc ?_ _)); refine blk_put (cs := #[.int .i64 ((rd_T27 y1108 x32_2).f0), .int .i64 0]) ?_ 1 _ rfl; (with_reducible repeat (first | refine blk_drewN ?_ _ | refine blk_drew ?_ | refine blk_alloc ?_ _)); refine blk_put (cs := #[.int .i64 0, .int .i64 0]) ?_ 0 _ rfl; (with_reducible repeat (first | refine blk_drewN ?_ _ | refine blk_drew ?_ | refine blk_alloc ?_ _)); exact BK1112.out) hb); replace HB := Aside0.mk (below_step (zb1 HB) hb); (try clear hb); (try clear hb2); (try clear hk); (try clear hi)) | ((with_reducible refine gate_dst (N := 12) rfl ?_); refine zbe (N := 12) (cs := #[.int .i64 0, .int .i64 0]) (t := 27) ?_; intro gb1116 hg w85 hbox hb; have BK1116 := Aside0.mk (hbox); have GW1116 := Aside0.mk (zge (zb1 HB) hg); have GE1116 := GW1116; have NB1092_1116 := Aside0.mk (zlt BK1092 hg); have NB1116_1092 := Aside0.mk (zgt BK1092 hg); have NB1093_1116 := Aside0.mk (zlt BK1093 hg); have NB1116_1093 := Aside0.mk (zgt BK1093 hg); have NB1094_1116 := Aside0.mk (zlt BK1094 hg); have NB1116_1094 := Aside0.mk (zgt BK1094 hg); have NB1107_1116 := Aside0.mk (zlt BK1107 hg); have NB1116_1107 := Aside0.mk (zgt BK1107 hg); have NB1112_1116 := Aside0.mk (zlt BK1112 hg); have NB1116_1112 := Aside0.mk (zgt BK1112 hg); replace HO_6 := Aside0.mk (Kd.R_below (Kd.R_elderB (zq3 HO_6) gb1116 (Nat.le_of_eq hg.symm)) hb); replace HO_7 := Aside0.mk (Kd.R_below (Kd.R_elderB (zq3 HO_7) gb1116 (Nat.le_of_eq hg.symm)) hb); replace HO_20 := Aside0.mk (Kd.R_below (Kd.R_elderB (zq3 HO_20) gb1116 (Nat.le_of_eq hg.symm)) hb); replace HO_30 := Aside0.mk (Kd.R_below (Kd.R_elderB (zq3 HO_30) gb1116 (Nat.le_of_eq hg.symm)) hb); replace BK1092 := Aside0.mk (zbb BK1092 hb); replace BK1093 := Aside0.mk (zbb BK1093 hb); replace BK1094 := Aside0.mk (zbb BK1094 hb); replace BK1107 := Aside0.mk (zbb BK1107 hb); replace BK1112 := Aside0.mk (zbb BK1112 hb); replace HB := Aside0.mk (below_step (zb1 HB) hb); clear hb hbox hg; have hnb86 := NB1116_1092.out; have hnc86 := NB1092_1116.out; have hnb87 := NB1116_1093.out; have hnc87 := NB1093_1116.out; have hnb88 := NB1116_1094.out; have hnc88 := NB1094_1116.out; have hnb89 := NB1116_1107.out; have hnc89 := NB1107_1116.out; have hnb90 := NB1116_1112.out; have hnc90 := NB1112_1116.out; have hcz91_0 : w85.cell? ⟨gb1116, 0, none⟩ = some (.int .i64 0) := zc BK1116 0; have hcz91_1 : w85.cell? ⟨gb1116, 1, none⟩ = some (.int .i64 0) := zc BK1116 1; have hfz91_0 := blk_frozen BK1116.out 0; have hfz91_1 := blk_frozen BK1116.out 1))
             have n0_ : Aside0 (Kd.R k27 27 ((w85.setCell ⟨gb1116, 0, none⟩ (.int .i64 t1113)).setCell ⟨gb1116, 1, none⟩ (.int .i64 t1114)) w.heap.size (fun k_ => some k_ ≠ (u7 : Value).ownBlock ∧ some k_ ≠ (.slice (some ad1106) y1095.length co11 : Value).ownBlock ∧ some k_ ≠ (.slice (some ad1111) y1108.length co25 : Value).ownBlock ∧ k_ ≠ gb1107 ∧ k_ ≠ gb1112 ∧ k_ ≠ gb1116) u6 x6_2) := ⟨by (with_reducible repeat (first | apply Kd.R_alloc | apply Kd.R_drewN | apply Kd.R_drew)); exact Kd.R_mono (Kd.R_far (p := ⟨gb1116, 1, none⟩) (Kd.R_far (p := ⟨gb1116, 0, none⟩) (Kd.R_mono HO_6.out (fun k_ hk => (⟨hk, hk.2⟩ : _ ∧ k_ ≠ gb1116))) (fun _ hk => hk.2) (.int .i64 t1113)) (fun _ hk => hk.2) (.int .i64 t1114)) (fun _ hk => ⟨hk.1.1.1.1, ⟨hk.1.1.1.2.1, ⟨hk.1.1.1.2.2.1, ⟨hk.1.1.1.2.2.2, ⟨hk.1.1.2, hk.1.2⟩⟩⟩⟩⟩)⟩
             have n1_ : Aside0 (Kd.R k27 27 ((w85.setCell ⟨gb1116, 0, none⟩ (.int .i64 t1113)).setCell ⟨gb1116, 1, none⟩ (.int .i64 t1114)) w.heap.size (fun k_ => some k_ ≠ (u6 : Value).ownBlock ∧ some k_ ≠ (.slice (some ad1106) y1095.length co11 : Value).ownBlock ∧ some k_ ≠ (.slice (some ad1111) y1108.length co25 : Value).ownBlock ∧ k_ ≠ gb1107 ∧ k_ ≠ gb1112 ∧ k_ ≠ gb1116) u7 x7_2) := ⟨by (with_reducible repeat (first | apply Kd.R_alloc | apply Kd.R_drewN | apply Kd.R_drew)); exact Kd.R_mono (Kd.R_far (p := ⟨gb1116, 1, none⟩) (Kd.R_far (p := ⟨gb1116, 0, none⟩) (Kd.R_mono HO_7.out (fun k_ hk => (⟨hk, hk.2⟩ : _ ∧ k_ ≠ gb1116))) (fun _ hk => hk.2) (.int .i64 t1113)) (fun _ hk => hk.2) (.int .i64 t1114)) (fun _ hk => ⟨hk.1.1.1.1, ⟨hk.1.1.1.2.1, ⟨hk.1.1.1.2.2.1, ⟨hk.1.1.1.2.2.2, ⟨hk.1.1.2, hk.1.2⟩⟩⟩⟩⟩)⟩
             have n2_ : Aside0 (Kd.R k27 27 ((w85.setCell ⟨gb1116, 0, none⟩ (.int .i64 t1113)).setCell ⟨gb1116, 1, none⟩ (.int .i64 t1114)) w.heap.size (fun k_ => some k_ ≠ (u6 : Value).ownBlock ∧ some k_ ≠ (u7 : Value).ownBlock ∧ some k_ ≠ (.slice (some ad1111) y1108.length co25 : Value).ownBlock ∧ k_ ≠ gb1107 ∧ k_ ≠ gb1112 ∧ k_ ≠ gb1116) (.slice (some ad1106) y1095.length co11) y1095) := ⟨by (with_reducible repeat (first | apply Kd.R_alloc | apply Kd.R_drewN | apply Kd.R_drew)); exact Kd.R_mono (Kd.R_far (p := ⟨gb1116, 1, none⟩) (Kd.R_far (p := ⟨gb1116, 0, none⟩) (Kd.R_mono HO_20.out (fun k_ hk => (⟨hk, hk.2⟩ : _ ∧ k_ ≠ gb1116))) (fun _ hk => hk.2) (.int .i64 t1113)) (fun _ hk => hk.2) (.int .i64 t1114)) (fun _ hk => ⟨hk.1.1.1.1, ⟨hk.1.1.1.2.1, ⟨hk.1.1.1.2.2.1, ⟨hk.1.1.1.2.2.2, ⟨hk.1.1.2, hk.1.2⟩⟩⟩⟩⟩)⟩
             have n3_ : Aside0 (Kd.R k27 27 ((w85.setCell ⟨gb1116, 0, none⟩ (.int .i64 t1113)).setCell ⟨gb1116, 1, none⟩ (.int .i64 t1114)) w.heap.size (fun k_ => some k_ ≠ (u6 : Value).ownBlock ∧ some k_ ≠ (u7 : Value).ownBlock ∧ some k_ ≠ (.slice (some ad1106) y1095.length co11 : Value).ownBlock ∧ k_ ≠ gb1107 ∧ k_ ≠ gb1112 ∧ k_ ≠ gb1116) (.slice (some ad1111) y1108.length co25) y1108) := ⟨by (with_reducible repeat (first | apply Kd.R_alloc | apply Kd.R_drewN | apply Kd.R_drew)); exact Kd.R_mono (Kd.R_far (p := ⟨gb1116, 1, none⟩) (Kd.R_far (p := ⟨gb1116, 0, none⟩) (Kd.R_mono HO_30.out (fun k_ hk => (⟨hk, hk.2⟩ : _ ∧ k_ ≠ gb1116))) (fun _ hk => hk.2) (.int .i64 t1113)) (fun _ hk => hk.2) (.int .i64 t1114)) (fun _ hk => ⟨hk.1.1.1.1, ⟨hk.1.1.1.2.1, ⟨hk.1.1.1.2.2.1, ⟨hk.1.1.1.2.2.2, ⟨hk.1.1.2, hk.1.2⟩⟩⟩⟩⟩)⟩
             have n4_ : Aside0 (((w85.setCell ⟨gb1116, 0, none⟩ (.int .i64 t1113)).setCell ⟨gb1116, 1, none⟩ (.int .i64 t1114)).heap[gb1092]? = some (.cells #[.int .i64 a0_0, .int .i64 a0_1, .int .i64 a0_2, .int .i64 a0_3] 29 (0, 0))) := ⟨zq5 BK1092⟩
             have n5_ : Aside0 (((w85.setCell ⟨gb1116, 0, none⟩ (.int .i64 t1113)).setCell ⟨gb1116, 1, none⟩ (.int .i64 t1114)).heap[gb1093]? = some (.cells #[.int .i64 a1_0, .int .i64 a1_1, .int .i64 a1_2, .int .i64 a1_3] 29 (0, 0))) := ⟨zq5 BK1093⟩
             have n6_ : Aside0 (((w85.setCell ⟨gb1116, 0, none⟩ (.int .i64 t1113)).setCell ⟨gb1116, 1, none⟩ (.int .i64 t1114)).heap[gb1094]? = some (.cells #[.int .i64 x1095000_2, .int .i64 x1095001_2, .int .i64 x1095002_2, .int .i64 x1095003_2] 29 (0, 0))) := ⟨zq5 BK1094⟩
             have n7_ : Aside0 (((w85.setCell ⟨gb1116, 0, none⟩ (.int .i64 t1113)).setCell ⟨gb1116, 1, none⟩ (.int .i64 t1114)).heap[gb1107]? = some (.cells #[.int .i64 ((rd_T27 y1095 x22_1).f0), .int .i64 ((rd_T27 y1095 x22_1).f1)] 27 (0, 0))) := ⟨zq5 BK1107⟩
             have n8_ : Aside0 (((w85.setCell ⟨gb1116, 0, none⟩ (.int .i64 t1113)).setCell ⟨gb1116, 1, none⟩ (.int .i64 t1114)).heap[gb1112]? = some (.cells #[.int .i64 ((rd_T27 y1108 x32_2).f0), .int .i64 ((rd_T27 y1108 x32_2).f1)] 27 (0, 0))) := ⟨zq5 BK1112⟩
             have n9_ : Aside0 (((w85.setCell ⟨gb1116, 0, none⟩ (.int .i64 t1113)).setCell ⟨gb1116, 1, none⟩ (.int .i64 t1114)).heap[gb1116]? = some (.cells #[.int .i64 t1113, .int .i64 t1114] 27 (0, 0))) := ⟨by (with_reducible repeat (first | refine blk_drewN ?_ _ | refine blk_drew ?_ | refine blk_alloc ?_ _)); refine blk_put (cs := #[.int .i64 t1113, .int .i64 0]) ?_ 1 _ rfl; (with_reducible repeat (first | refine blk_drewN ?_ _ | refine blk_drew ?_ | refine blk_alloc ?_ _)); refine blk_put (cs := #[.int .i64 0, .int .i64 0]) ?_ 0 _ rfl; (with_reducible repeat (first | refine blk_drewN ?_ _ | refine blk_drew ?_ | refine blk_alloc ?_ _)); exact BK1116.out⟩
             have n10_ : Aside0 (Below w.heap.size w ((w85.setCell ⟨gb1116, 0, none⟩ (.int .i64 t1113)).setCell ⟨gb1116, 1, none⟩ (.int .i64 t1114))) := ⟨(zb1 HB)⟩
             (try clear HO_6)
             (try clear HO_7)
             (try clear HO_20)
             (try clear HO_30)
             (try clear BK1092)
             (try clear BK1093)
             (try clear BK1094)
             (try clear BK1107)
             (try clear BK1112)
             (try clear BK1116)
             (try clear HB)
             generalize ((w85.setCell ⟨gb1116, 0, none⟩ (.int .i64 t1113)).setCell ⟨gb1116, 1, none⟩ (.int .i64 t1114)) = w92 at n0_ n1_ n2_ n3_ n4_ n5_ n6_ n7_ n8_ n9_ n10_ ⊢
             have HO_6 := n0_; have HO_7 := n1_; have HO_20 := n2_; have HO_30 := n3_; have BK1092 := n4_; have BK1093 := n5_; have BK1094 := n6_; have BK1107 := n7_; have BK1112 := n8_; have BK1116 := n9_; have HB := n10_
             clear n0_ n1_ n2_ n3_ n4_ n5_ n6_ n7_ n8_ n9_ n10_
             replace HO_6 := Aside0.mk (Kd.R_drew HO_6.out); replace HO_7 := Aside0.mk (Kd.R_drew HO_7.out); replace HO_20 := Aside0.mk (Kd.R_drew HO_20.out); replace HO_30 := Aside0.mk (Kd.R_drew HO_30.out); replace BK1092 := Aside0.mk (blk_drew BK1092.out); replace BK1093 := Aside0.mk (blk_drew BK1093.out); replace BK1094 := Aside0.mk (blk_drew BK1094.out); replace BK1107 := Aside0.mk (blk_drew BK1107.out); replace BK1112 := Aside0.mk (blk_drew BK1112.out); replace BK1116 := Aside0.mk (blk_drew BK1116.out); replace HB := Aside0.mk (below_drew1 HB.out)
             refine start_ (n := 10) (S := fun w' => w'.cell? ⟨gb1107, 0, none⟩ = some (.int .i64 ((rd_T27 y1095 x22_1).f0)) ∧ w'.cell? ⟨gb1107, 1, none⟩ = some (.int .i64 ((rd_T27 y1095 x22_1).f1)) ∧ w'.cell? ⟨gb1112, 0, none⟩ = some (.int .i64 ((rd_T27 y1108 x32_2).f0)) ∧ w'.cell? ⟨gb1112, 1, none⟩ = some (.int .i64 ((rd_T27 y1108 x32_2).f1))) (ds := []) #[false, false, false, false, false, false, false, false, false, false] (by kernel_rfl) rfl rfl ⟨zc BK1107 0, zc BK1107 1, zc BK1112 0, zc BK1112 1⟩ (fun hHeld => ?_); refine with_tabW spec_ivDiv.tab9 spec_ivDiv.bits9 (fun HT_ HW_ => ?_)
             generalize w92.drew = w93 at HO_6 HO_7 HO_20 HO_30 BK1092 BK1093 BK1094 BK1107 BK1112 BK1116 HB hHeld ⊢
             refine take_ (i := 0) (N := some 43) (v := ?_) (a' := ?_) #[true, false, false, false, false, false, false, false, false, false] rfl rfl (take_ofW HT_.out HW_.out (by kernel_rfl)) (fun _ _ _ h => h) (Or.inl ⟨by rfl, ?_⟩) hHeld ?_ ?_
             rotate_left
             ·
              rintro w' ⟨s0, s1, s2, s3⟩
              first | (go_simp; with_reducible rfl) | (go_simp; simp only [Instr.field]; go_simp; simp only [asAgg]; go_simp; rfl)
             rotate_left
             ·
              simp only [Act.put, List.setIfInBounds_toArray, List.set_cons_zero, List.set_cons_succ, i64_w, i32_w]
              rfl
             refine take_ (i := 2) (N := some 45) (v := ?_) (a' := ?_) #[true, false, true, false, false, false, false, false, false, false] rfl rfl (take_ofW HT_.out HW_.out (by kernel_rfl)) (fun _ _ _ h => h) (Or.inl ⟨by rfl, ?_⟩) hHeld ?_ ?_
             rotate_left
             ·
              rintro w' ⟨s0, s1, s2, s3⟩
              first | (go_simp; with_reducible rfl) | (go_simp; simp only [Instr.field]; go_simp; simp only [asAgg]; go_simp; rfl)
             rotate_left
             ·
              simp only [Act.put, List.setIfInBounds_toArray, List.set_cons_zero, List.set_cons_succ, i64_w, i32_w]
              rfl
             refine join_ (σ := Nat) 2 #[true, true, true, true, true, true, true, true, false, false] (fun s_ => [(44, .agg #[.int .i64 t1117, .int .i64 t1118]), (46, .tuple #[.agg #[.int .i64 t1119, .int .i64 t1120], .bool false]), (14, .pointer (some ⟨s_, 0, none⟩)), (42, .tuple #[.agg #[.int .i64 t1119, .int .i64 t1120], .bool false]), (47, .agg #[.int .i64 t1119, .int .i64 t1120]), (48, .bool false)]) (fun s_ w' => (w'.cell? ⟨gb1107, 0, none⟩ = some (.int .i64 ((rd_T27 y1095 x22_1).f0)) ∧ w'.cell? ⟨gb1107, 1, none⟩ = some (.int .i64 ((rd_T27 y1095 x22_1).f1)) ∧ w'.cell? ⟨gb1112, 0, none⟩ = some (.int .i64 ((rd_T27 y1108 x32_2).f0)) ∧ w'.cell? ⟨gb1112, 1, none⟩ = some (.int .i64 ((rd_T27 y1108 x32_2).f1))) ∧ (Kd.R k27 27 w' w.heap.size (fun k_ => some k_ ≠ (.slice (some ad1111) y1108.length co25 : Value).ownBlock ∧ some k_ ≠ (u6 : Value).ownBlock ∧ some k_ ≠ (u7 : Value).ownBlock ∧ k_ ≠ gb1107 ∧ k_ ≠ gb1112 ∧ k_ ≠ gb1116 ∧ k_ ≠ s_) (.slice (some ad1106) y1095.length co11) y1095) ∧ (Kd.R k27 27 w' w.heap.size (fun k_ => some k_ ≠ (.slice (some ad1106) y1095.length co11 : Value).ownBlock ∧ some k_ ≠ (u6 : Value).ownBlock ∧ some k_ ≠ (u7 : Value).ownBlock ∧ k_ ≠ gb1107 ∧ k_ ≠ gb1112 ∧ k_ ≠ gb1116 ∧ k_ ≠ s_) (.slice (some ad1111) y1108.length co25) y1108) ∧ (Kd.R k27 27 w' w.heap.size (fun k_ => some k_ ≠ (.slice (some ad1106) y1095.length co11 : Value).ownBlock ∧ some k_ ≠ (.slice (some ad1111) y1108.length co25 : Value).ownBlock ∧ some k_ ≠ (u7 : Value).ownBlock ∧ k_ ≠ gb1107 ∧ k_ ≠ gb1112 ∧ k_ ≠ gb1116 ∧ k_ ≠ s_) u6 x6_2) ∧ (Kd.R k27 27 w' w.heap.size (fun k_ => some k_ ≠ (.slice (some ad1106) y1095.length co11 : Value).ownBlock ∧ some k_ ≠ (.slice (some ad1111) y1108.length co25 : Value).ownBlock ∧ some k_ ≠ (u6 : Value).ownBlock ∧ k_ ≠ gb1107 ∧ k_ ≠ gb1112 ∧ k_ ≠ gb1116 ∧ k_ ≠ s_) u7 x7_2) ∧ (w'.heap[gb1092]? = some (.cells #[.int .i64 a0_0, .int .i64 a0_1, .int .i64 a0_2, .int .i64 a0_3] 29 (0, 0))) ∧ (w'.heap[gb1093]? = some (.cells #[.int .i64 a1_0, .int .i64 a1_1, .int .i64 a1_2, .int .i64 a1_3] 29 (0, 0))) ∧ (w'.heap[gb1094]? = some (.cells #[.int .i64 x1095000_2, .int .i64 x1095001_2, .int .i64 x1095002_2, .int .i64 x1095003_2] 29 (0, 0))) ∧ (w'.heap[gb1107]? = some (.cells #[.int .i64 ((rd_T27 y1095 x22_1).f0), .int .i64 ((rd_T27 y1095 x22_1).f1)] 27 (0, 0))) ∧ (w'.heap[gb1112]? = some (.cells #[.int .i64 ((rd_T27 y1108 x32_2).f0), .int .i64 ((rd_T27 y1108 x32_2).f1)] 27 (0, 0))) ∧ (w'.heap[gb1116]? = some (.cells #[.int .i64 t1113, .int .i64 t1114] 27 (0, 0))) ∧ (w'.heap[s_]? = some (.cells #[.int .i64 0, .int .i64 0] 27 (0, 0))) ∧ (w.heap.size ≤ s_) ∧ (w.heap.size ≤ s_) ∧ (gb1092 ≠ s_) ∧ (s_ ≠ gb1092) ∧ (gb1093 ≠ s_) ∧ (s_ ≠ gb1093) ∧ (gb1094 ≠ s_) ∧ (s_ ≠ gb1094) ∧ (gb1107 ≠ s_) ∧ (s_ ≠ gb1107) ∧ (gb1112 ≠ s_) ∧ (s_ ≠ gb1112) ∧ (gb1116 ≠ s_) ∧ (s_ ≠ gb1116) ∧ (Below w.heap.size w w')) ?_ ?_
             rotate_left
             ·
              intro hCont
              refine two_ (i := 1) (j := 7) (Ni := some 44) (Nj := some 14) #[true, true, true, false, false, false, false, false, false, false] #[true, false, true, false, false, false, false, true, false, false] rfl rfl rfl rfl (two_of HT_.out (by kernel_rfl)) (by decide) (by decide) (fun K hK => ?_) (fun K hK => ?_)
              ·
               refine goes_ Try.func87 (by kernel_rfl) rfl #[.agg #[.int .i64 ((rd_T27 y1095 x22_1).f0), .int .i64 ((rd_T27 y1095 x22_1).f1)]] (by rfl) rfl rfl zq6 ?_
               with_reducible refine (spec_dyMinus.calls ((rd_T27 y1095 x22_1).f0) ((rd_T27 y1095 x22_1).f1) t1117 t1118 _ A30.out).mono ?_
               rintro e w94 ⟨rfl, hb⟩
               refine ⟨_, rfl, ?_⟩
               replace HO_6 := Aside0.mk (Kd.R_below (zq3 HO_6) hb); replace HO_7 := Aside0.mk (Kd.R_below (zq3 HO_7) hb); replace HO_20 := Aside0.mk (Kd.R_below (zq3 HO_20) hb); replace HO_30 := Aside0.mk (Kd.R_below (zq3 HO_30) hb); replace BK1092 := Aside0.mk (zbb BK1092 hb); replace BK1093 := Aside0.mk (zbb BK1093 hb); replace BK1094 := Aside0.mk (zbb BK1094 hb); replace BK1107 := Aside0.mk (zbb BK1107 hb); replace BK1112 := Aside0.mk (zbb BK1112 hb); replace BK1116 := Aside0.mk (zbb BK1116 hb); replace HB := Aside0.mk (below_step (zb1 HB) hb)
               (try clear hb)
               (try clear hb2)
               (try clear hk)
               (try clear hi)
               refine hK.out _ _ ⟨zc BK1107 0, zc BK1107 1, zc BK1112 0, zc BK1112 1⟩ (fun hHeld => ?_)
               clear hK K
               refine norm_ (a' := ?_) ?_ ?_
               rotate_left
               ·
                show Act.put _ (some 44) _ = _
                simp only [Act.put, List.setIfInBounds_toArray, List.set_cons_zero, List.set_cons_succ, i64_w, i32_w]; rfl
               refine two_ (i := 3) (j := 7) (Ni := some 46) (Nj := some 14) #[true, true, true, true, false, false, false, false, false, false] #[true, true, true, false, false, false, false, true, false, false] rfl rfl rfl rfl (two_of HT_.out (by kernel_rfl)) (by decide) (by decide) (fun K hK => ?_) (fun K hK => ?_)
               ·
                refine goes_ Try.func99 (by kernel_rfl) rfl #[.agg #[.int .i64 t1117, .int .i64 t1118], .agg #[.int .i64 ((rd_T27 y1108 x32_2).f0), .int .i64 ((rd_T27 y1108 x32_2).f1)], .int .i64 16] (by rfl) rfl rfl zq6 ?_
                with_reducible refine (spec_dyDivide.calls k2 t1117 t1118 ((rd_T27 y1108 x32_2).f0) ((rd_T27 y1108 x32_2).f1) 16 t1119 t1120 false _ A31.out).mono ?_
                rintro e w95 ⟨rfl, hb⟩
                refine ⟨_, rfl, ?_⟩
                replace HO_6 := Aside0.mk (Kd.R_below (zq3 HO_6) hb); replace HO_7 := Aside0.mk (Kd.R_below (zq3 HO_7) hb); replace HO_20 := Aside0.mk (Kd.R_below (zq3 HO_20) hb); replace HO_30 := Aside0.mk (Kd.R_below (zq3 HO_30) hb); replace BK1092 := Aside0.mk (zbb BK1092 hb); replace BK1093 := Aside0.mk (zbb BK1093 hb); replace BK1094 := Aside0.mk (zbb BK1094 hb); replace BK1107 := Aside0.mk (zbb BK1107 hb); replace BK1112 := Aside0.mk (zbb BK1112 hb); replace BK1116 := Aside0.mk (zbb BK1116 hb); replace HB := Aside0.mk (below_step (zb1 HB) hb)
                (try clear hb)
                (try clear hb2)
                (try clear hk)
                (try clear hi)
                refine hK.out _ _ ⟨zc BK1107 0, zc BK1107 1, zc BK1112 0, zc BK1112 1⟩ (fun hHeld => ?_)
                clear hK K
                refine norm_ (a' := ?_) ?_ ?_
                rotate_left
                ·
                 show Act.put _ (some 46) _ = _
                 simp only [Act.put, List.setIfInBounds_toArray, List.set_cons_zero, List.set_cons_succ, i64_w, i32_w]; rfl
                refine pure_ (i := 4) (N := some 42) (v := ?_) (a' := ?_) #[true, true, true, true, true, false, false, false, false, false] rfl rfl (any_of HT_.out (by kernel_rfl)) (fun _ _ _ h => h) (Or.inl ⟨by rfl, ?_⟩) ?_ ?_
                rotate_left
                ·
                 intro w'
                 first | (go_simp; with_reducible rfl) | (go_simp; simp only [Instr.field]; go_simp; simp only [asAgg]; go_simp; rfl)
                rotate_left
                ·
                 simp only [Act.put, List.setIfInBounds_toArray, List.set_cons_zero, List.set_cons_succ, i64_w, i32_w]
                 rfl
                refine pure_ (i := 5) (N := some 47) (v := ?_) (a' := ?_) #[true, true, true, true, true, true, false, false, false, false] rfl rfl (any_of HT_.out (by kernel_rfl)) (fun _ _ _ h => h) (Or.inl ⟨by rfl, ?_⟩) ?_ ?_
                rotate_left
                ·
                 intro w'
                 first | (go_simp; with_reducible rfl) | (go_simp; simp only [Instr.field]; go_simp; simp only [asAgg]; go_simp; rfl)
                rotate_left
                ·
                 simp only [Act.put, List.setIfInBounds_toArray, List.set_cons_zero, List.set_cons_succ, i64_w, i32_w]
                 rfl
                refine pure_ (i := 6) (N := some 48) (v := ?_) (a' := ?_) #[true, true, true, true, true, true, true, false, false, false] rfl rfl (any_of HT_.out (by kernel_rfl)) (fun _ _ _ h => h) (Or.inl ⟨by rfl, ?_⟩) ?_ ?_
                rotate_left
                ·
                 intro w'
                 first | (go_simp; with_reducible rfl) | (go_simp; simp only [Instr.field]; go_simp; simp only [asAgg]; go_simp; rfl)
                rotate_left
                ·
                 simp only [Act.put, List.setIfInBounds_toArray, List.set_cons_zero, List.set_cons_succ, i64_w, i32_w]
                 rfl
                refine one_ (i := 7) (N := some 14) #[true, true, true, true, true, true, true, true, false, false] rfl rfl (one_of HT_.out (by kernel_rfl)) (by decide) (fun K hK => ?_)
                refine box_step ?hg (N := 14) ?hd (cs := #[.int .i64 0, .int .i64 0]) (t := 27) ?hr ?_; (case hd => rfl); (case hg => rfl); (case hr => first | (go_simp; done) | (go_simp; rfl))
                intro gb1122 hg w96 hbox hb
                have n0_ := Aside0.mk (Kd.R_below (Kd.R_elderB (zq3 HO_6) gb1122 (Nat.le_of_eq hg.symm)) hb)
                have n1_ := Aside0.mk (Kd.R_below (Kd.R_elderB (zq3 HO_7) gb1122 (Nat.le_of_eq hg.symm)) hb)
                have n2_ := Aside0.mk (Kd.R_below (Kd.R_elderB (zq3 HO_20) gb1122 (Nat.le_of_eq hg.symm)) hb)
                have n3_ := Aside0.mk (Kd.R_below (Kd.R_elderB (zq3 HO_30) gb1122 (Nat.le_of_eq hg.symm)) hb)
                have n4_ := Aside0.mk (zbb BK1092 hb)
                have n5_ := Aside0.mk (zbb BK1093 hb)
                have n6_ := Aside0.mk (zbb BK1094 hb)
                have n7_ := Aside0.mk (zbb BK1107 hb)
                have n8_ := Aside0.mk (zbb BK1112 hb)
                have n9_ := Aside0.mk (zbb BK1116 hb)
                have n10_ := Aside0.mk (below_step (zb1 HB) hb)
                have BK1122 := Aside0.mk (hbox)
                have GW1122 := Aside0.mk (zge (zb1 HB) hg)
                have GE1122 := Aside0.mk (zge (zb1 HB) hg)
                have NB1092_1122 := Aside0.mk (zlt BK1092 hg)
                have NB1122_1092 := Aside0.mk (zgt BK1092 hg)
                have NB1093_1122 := Aside0.mk (zlt BK1093 hg)
                have NB1122_1093 := Aside0.mk (zgt BK1093 hg)
                have NB1094_1122 := Aside0.mk (zlt BK1094 hg)
                have NB1122_1094 := Aside0.mk (zgt BK1094 hg)
                have NB1107_1122 := Aside0.mk (zlt BK1107 hg)
                have NB1122_1107 := Aside0.mk (zgt BK1107 hg)
                have NB1112_1122 := Aside0.mk (zlt BK1112 hg)
                have NB1122_1112 := Aside0.mk (zgt BK1112 hg)
                have NB1116_1122 := Aside0.mk (zlt BK1116 hg)
                have NB1122_1116 := Aside0.mk (zgt BK1116 hg)
                clear HO_6 HO_7 HO_20 HO_30 BK1092 BK1093 BK1094 BK1107 BK1112 BK1116 HB
                have HO_6 := n0_; have HO_7 := n1_; have HO_20 := n2_; have HO_30 := n3_; have BK1092 := n4_; have BK1093 := n5_; have BK1094 := n6_; have BK1107 := n7_; have BK1112 := n8_; have BK1116 := n9_; have HB := n10_
                clear n0_ n1_ n2_ n3_ n4_ n5_ n6_ n7_ n8_ n9_ n10_ hb hbox hg
                refine hK.out _ _ ⟨zc BK1107 0, zc BK1107 1, zc BK1112 0, zc BK1112 1⟩ (fun hHeld => ?_)
                clear hK K
                refine norm_ (a' := ?_) ?_ ?_
                rotate_left
                ·
                 show Act.put _ (some 14) _ = _
                 simp only [Act.put, List.setIfInBounds_toArray, List.set_cons_zero, List.set_cons_succ, i64_w, i32_w]; rfl
                exact norm_ (by simp only [putAll, Act.put, List.setIfInBounds_toArray, List.set_cons_zero, List.set_cons_succ]) (hCont (gb1122) _ ⟨hHeld, (by (with_reducible repeat (first | apply Kd.R_alloc | apply Kd.R_drewN | apply Kd.R_drew)); exact Kd.R_mono HO_20.out (fun _ hk => ⟨hk.1.2.2.1, ⟨hk.1.1, ⟨hk.1.2.1, ⟨hk.1.2.2.2.1, ⟨hk.1.2.2.2.2.1, ⟨hk.1.2.2.2.2.2, hk.2⟩⟩⟩⟩⟩⟩)), (by (with_reducible repeat (first | apply Kd.R_alloc | apply Kd.R_drewN | apply Kd.R_drew)); exact Kd.R_mono HO_30.out (fun _ hk => ⟨hk.1.2.2.1, ⟨hk.1.1, ⟨hk.1.2.1, ⟨hk.1.2.2.2.1, ⟨hk.1.2.2.2.2.1, ⟨hk.1.2.2.2.2.2, hk.2⟩⟩⟩⟩⟩⟩)), (by (with_reducible repeat (first | apply Kd.R_alloc | apply Kd.R_drewN | apply Kd.R_drew)); exact Kd.R_mono HO_6.out (fun _ hk => ⟨hk.1.2.1, ⟨hk.1.2.2.1, ⟨hk.1.1, ⟨hk.1.2.2.2.1, ⟨hk.1.2.2.2.2.1, ⟨hk.1.2.2.2.2.2, hk.2⟩⟩⟩⟩⟩⟩)), (by (with_reducible repeat (first | apply Kd.R_alloc | apply Kd.R_drewN | apply Kd.R_drew)); exact Kd.R_mono HO_7.out (fun _ hk => ⟨hk.1.2.1, ⟨hk.1.2.2.1, ⟨hk.1.1, ⟨hk.1.2.2.2.1, ⟨hk.1.2.2.2.2.1, ⟨hk.1.2.2.2.2.2, hk.2⟩⟩⟩⟩⟩⟩)), (zq1 BK1092), (zq1 BK1093), (zq1 BK1094), (zq1 BK1107), (zq1 BK1112), (zq1 BK1116), (zq1 BK1122), GW1122.out, GE1122.out, NB1092_1122.out, NB1122_1092.out, NB1093_1122.out, NB1122_1093.out, NB1094_1122.out, NB1122_1094.out, NB1107_1122.out, NB1122_1107.out, NB1112_1122.out, NB1122_1112.out, NB1116_1122.out, NB1122_1116.out, (zb1 HB)⟩)
               ·
                refine box_step ?hg (N := 14) ?hd (cs := #[.int .i64 0, .int .i64 0]) (t := 27) ?hr ?_; (case hd => rfl); (case hg => rfl); (case hr => first | (go_simp; done) | (go_simp; rfl))
                intro gb1122 hg w95 hbox hb
                have n0_ := Aside0.mk (Kd.R_below (Kd.R_elderB (zq3 HO_6) gb1122 (Nat.le_of_eq hg.symm)) hb)
                have n1_ := Aside0.mk (Kd.R_below (Kd.R_elderB (zq3 HO_7) gb1122 (Nat.le_of_eq hg.symm)) hb)
                have n2_ := Aside0.mk (Kd.R_below (Kd.R_elderB (zq3 HO_20) gb1122 (Nat.le_of_eq hg.symm)) hb)
                have n3_ := Aside0.mk (Kd.R_below (Kd.R_elderB (zq3 HO_30) gb1122 (Nat.le_of_eq hg.symm)) hb)
                have n4_ := Aside0.mk (zbb BK1092 hb)
                have n5_ := Aside0.mk (zbb BK1093 hb)
                have n6_ := Aside0.mk (zbb BK1094 hb)
                have n7_ := Aside0.mk (zbb BK1107 hb)
                have n8_ := Aside0.mk (zbb BK1112 hb)
                have n9_ := Aside0.mk (zbb BK1116 hb)
                have n10_ := Aside0.mk (below_step (zb1 HB) hb)
                have BK1122 := Aside0.mk (hbox)
                have GW1122 := Aside0.mk (zge (zb1 HB) hg)
                have GE1122 := Aside0.mk (zge (zb1 HB) hg)
                have NB1092_1122 := Aside0.mk (zlt BK1092 hg)
                have NB1122_1092 := Aside0.mk (zgt BK1092 hg)
                have NB1093_1122 := Aside0.mk (zlt BK1093 hg)
                have NB1122_1093 := Aside0.mk (zgt BK1093 hg)
                have NB1094_1122 := Aside0.mk (zlt BK1094 hg)
                have NB1122_1094 := Aside0.mk (zgt BK1094 hg)
                have NB1107_1122 := Aside0.mk (zlt BK1107 hg)
                have NB1122_1107 := Aside0.mk (zgt BK1107 hg)
                have NB1112_1122 := Aside0.mk (zlt BK1112 hg)
                have NB1122_1112 := Aside0.mk (zgt BK1112 hg)
                have NB1116_1122 := Aside0.mk (zlt BK1116 hg)
                have NB1122_1116 := Aside0.mk (zgt BK1116 hg)
                clear HO_6 HO_7 HO_20 HO_30 BK1092 BK1093 BK1094 BK1107 BK1112 BK1116 HB
                have HO_6 := n0_; have HO_7 := n1_; have HO_20 := n2_; have HO_30 := n3_; have BK1092 := n4_; have BK1093 := n5_; have BK1094 := n6_; have BK1107 := n7_; have BK1112 := n8_; have BK1116 := n9_; have HB := n10_
                clear n0_ n1_ n2_ n3_ n4_ n5_ n6_ n7_ n8_ n9_ n10_ hb hbox hg
                refine hK.out _ _ ⟨zc BK1107 0, zc BK1107 1, zc BK1112 0, zc BK1112 1⟩ (fun hHeld => ?_)
                clear hK K
                refine norm_ (a' := ?_) ?_ ?_
                rotate_left
                ·
                 show Act.put _ (some 14) _ = _
                 simp only [Act.put, List.setIfInBounds_toArray, List.set_cons_zero, List.set_cons_succ, i64_w, i32_w]; rfl
                refine one_ (i := 3) (N := some 46) #[true, true, true, true, false, false, false, true, false, false] rfl rfl (one_of HT_.out (by kernel_rfl)) (by decide) (fun K hK => ?_)
                refine goes_ Try.func99 (by kernel_rfl) rfl #[.agg #[.int .i64 t1117, .int .i64 t1118], .agg #[.int .i64 ((rd_T27 y1108 x32_2).f0), .int .i64 ((rd_T27 y1108 x32_2).f1)], .int .i64 16] (by rfl) rfl rfl zq6 ?_
                with_reducible refine (spec_dyDivide.calls k2 t1117 t1118 ((rd_T27 y1108 x32_2).f0) ((rd_T27 y1108 x32_2).f1) 16 t1119 t1120 false _ A31.out).mono ?_
                rintro e w96 ⟨rfl, hb⟩
                refine ⟨_, rfl, ?_⟩
                replace HO_6 := Aside0.mk (Kd.R_below (zq3 HO_6) hb); replace HO_7 := Aside0.mk (Kd.R_below (zq3 HO_7) hb); replace HO_20 := Aside0.mk (Kd.R_below (zq3 HO_20) hb); replace HO_30 := Aside0.mk (Kd.R_below (zq3 HO_30) hb); replace BK1092 := Aside0.mk (zbb BK1092 hb); replace BK1093 := Aside0.mk (zbb BK1093 hb); replace BK1094 := Aside0.mk (zbb BK1094 hb); replace BK1107 := Aside0.mk (zbb BK1107 hb); replace BK1112 := Aside0.mk (zbb BK1112 hb); replace BK1116 := Aside0.mk (zbb BK1116 hb); replace BK1122 := Aside0.mk (zbb BK1122 hb); replace HB := Aside0.mk (below_step (zb1 HB) hb)
                (try clear hb)
                (try clear hb2)
                (try clear hk)
                (try clear hi)
                refine hK.out _ _ ⟨zc BK1107 0, zc BK1107 1, zc BK1112 0, zc BK1112 1⟩ (fun hHeld => ?_)
                clear hK K
                refine norm_ (a' := ?_) ?_ ?_
                rotate_left
                ·
                 show Act.put _ (some 46) _ = _
                 simp only [Act.put, List.setIfInBounds_toArray, List.set_cons_zero, List.set_cons_succ, i64_w, i32_w]; rfl
                refine pure_ (i := 4) (N := some 42) (v := ?_) (a' := ?_) #[true, true, true, true, true, false, false, true, false, false] rfl rfl (any_of HT_.out (by kernel_rfl)) (fun _ _ _ h => h) (Or.inl ⟨by rfl, ?_⟩) ?_ ?_
                rotate_left
                ·
                 intro w'
                 first | (go_simp; with_reducible rfl) | (go_simp; simp only [Instr.field]; go_simp; simp only [asAgg]; go_simp; rfl)
                rotate_left
                ·
                 simp only [Act.put, List.setIfInBounds_toArray, List.set_cons_zero, List.set_cons_succ, i64_w, i32_w]
                 rfl
                refine pure_ (i := 5) (N := some 47) (v := ?_) (a' := ?_) #[true, true, true, true, true, true, false, true, false, false] rfl rfl (any_of HT_.out (by kernel_rfl)) (fun _ _ _ h => h) (Or.inl ⟨by rfl, ?_⟩) ?_ ?_
                rotate_left
                ·
                 intro w'
                 first | (go_simp; with_reducible rfl) | (go_simp; simp only [Instr.field]; go_simp; simp only [asAgg]; go_simp; rfl)
                rotate_left
                ·
                 simp only [Act.put, List.setIfInBounds_toArray, List.set_cons_zero, List.set_cons_succ, i64_w, i32_w]
                 rfl
                refine pure_ (i := 6) (N := some 48) (v := ?_) (a' := ?_) #[true, true, true, true, true, true, true, true, false, false] rfl rfl (any_of HT_.out (by kernel_rfl)) (fun _ _ _ h => h) (Or.inl ⟨by rfl, ?_⟩) ?_ ?_
                rotate_left
                ·
                 intro w'
                 first | (go_simp; with_reducible rfl) | (go_simp; simp only [Instr.field]; go_simp; simp only [asAgg]; go_simp; rfl)
                rotate_left
                ·
                 simp only [Act.put, List.setIfInBounds_toArray, List.set_cons_zero, List.set_cons_succ, i64_w, i32_w]
                 rfl
                exact norm_ (by simp only [putAll, Act.put, List.setIfInBounds_toArray, List.set_cons_zero, List.set_cons_succ]) (hCont (gb1122) _ ⟨hHeld, (by (with_reducible repeat (first | apply Kd.R_alloc | apply Kd.R_drewN | apply Kd.R_drew)); exact Kd.R_mono HO_20.out (fun _ hk => ⟨hk.1.2.2.1, ⟨hk.1.1, ⟨hk.1.2.1, ⟨hk.1.2.2.2.1, ⟨hk.1.2.2.2.2.1, ⟨hk.1.2.2.2.2.2, hk.2⟩⟩⟩⟩⟩⟩)), (by (with_reducible repeat (first | apply Kd.R_alloc | apply Kd.R_drewN | apply Kd.R_drew)); exact Kd.R_mono HO_30.out (fun _ hk => ⟨hk.1.2.2.1, ⟨hk.1.1, ⟨hk.1.2.1, ⟨hk.1.2.2.2.1, ⟨hk.1.2.2.2.2.1, ⟨hk.1.2.2.2.2.2, hk.2⟩⟩⟩⟩⟩⟩)), (by (with_reducible repeat (first | apply Kd.R_alloc | apply Kd.R_drewN | apply Kd.R_drew)); exact Kd.R_mono HO_6.out (fun _ hk => ⟨hk.1.2.1, ⟨hk.1.2.2.1, ⟨hk.1.1, ⟨hk.1.2.2.2.1, ⟨hk.1.2.2.2.2.1, ⟨hk.1.2.2.2.2.2, hk.2⟩⟩⟩⟩⟩⟩)), (by (with_reducible repeat (first | apply Kd.R_alloc | apply Kd.R_drewN | apply Kd.R_drew)); exact Kd.R_mono HO_7.out (fun _ hk => ⟨hk.1.2.1, ⟨hk.1.2.2.1, ⟨hk.1.1, ⟨hk.1.2.2.2.1, ⟨hk.1.2.2.2.2.1, ⟨hk.1.2.2.2.2.2, hk.2⟩⟩⟩⟩⟩⟩)), (zq1 BK1092), (zq1 BK1093), (zq1 BK1094), (zq1 BK1107), (zq1 BK1112), (zq1 BK1116), (zq1 BK1122), GW1122.out, GE1122.out, NB1092_1122.out, NB1122_1092.out, NB1093_1122.out, NB1122_1093.out, NB1094_1122.out, NB1122_1094.out, NB1107_1122.out, NB1122_1107.out, NB1112_1122.out, NB1122_1112.out, NB1116_1122.out, NB1122_1116.out, (zb1 HB)⟩)
              ·
               refine box_step ?hg (N := 14) ?hd (cs := #[.int .i64 0, .int .i64 0]) (t := 27) ?hr ?_; (case hd => rfl); (case hg => rfl); (case hr => first | (go_simp; done) | (go_simp; rfl))
               intro gb1122 hg w94 hbox hb
               have n0_ := Aside0.mk (Kd.R_below (Kd.R_elderB (zq3 HO_6) gb1122 (Nat.le_of_eq hg.symm)) hb)
               have n1_ := Aside0.mk (Kd.R_below (Kd.R_elderB (zq3 HO_7) gb1122 (Nat.le_of_eq hg.symm)) hb)
               have n2_ := Aside0.mk (Kd.R_below (Kd.R_elderB (zq3 HO_20) gb1122 (Nat.le_of_eq hg.symm)) hb)
               have n3_ := Aside0.mk (Kd.R_below (Kd.R_elderB (zq3 HO_30) gb1122 (Nat.le_of_eq hg.symm)) hb)
               have n4_ := Aside0.mk (zbb BK1092 hb)
               have n5_ := Aside0.mk (zbb BK1093 hb)
               have n6_ := Aside0.mk (zbb BK1094 hb)
               have n7_ := Aside0.mk (zbb BK1107 hb)
               have n8_ := Aside0.mk (zbb BK1112 hb)
               have n9_ := Aside0.mk (zbb BK1116 hb)
               have n10_ := Aside0.mk (below_step (zb1 HB) hb)
               have BK1122 := Aside0.mk (hbox)
               have GW1122 := Aside0.mk (zge (zb1 HB) hg)
               have GE1122 := Aside0.mk (zge (zb1 HB) hg)
               have NB1092_1122 := Aside0.mk (zlt BK1092 hg)
               have NB1122_1092 := Aside0.mk (zgt BK1092 hg)
               have NB1093_1122 := Aside0.mk (zlt BK1093 hg)
               have NB1122_1093 := Aside0.mk (zgt BK1093 hg)
               have NB1094_1122 := Aside0.mk (zlt BK1094 hg)
               have NB1122_1094 := Aside0.mk (zgt BK1094 hg)
               have NB1107_1122 := Aside0.mk (zlt BK1107 hg)
               have NB1122_1107 := Aside0.mk (zgt BK1107 hg)
               have NB1112_1122 := Aside0.mk (zlt BK1112 hg)
               have NB1122_1112 := Aside0.mk (zgt BK1112 hg)
               have NB1116_1122 := Aside0.mk (zlt BK1116 hg)
               have NB1122_1116 := Aside0.mk (zgt BK1116 hg)
               clear HO_6 HO_7 HO_20 HO_30 BK1092 BK1093 BK1094 BK1107 BK1112 BK1116 HB
               have HO_6 := n0_; have HO_7 := n1_; have HO_20 := n2_; have HO_30 := n3_; have BK1092 := n4_; have BK1093 := n5_; have BK1094 := n6_; have BK1107 := n7_; have BK1112 := n8_; have BK1116 := n9_; have HB := n10_
               clear n0_ n1_ n2_ n3_ n4_ n5_ n6_ n7_ n8_ n9_ n10_ hb hbox hg
               refine hK.out _ _ ⟨zc BK1107 0, zc BK1107 1, zc BK1112 0, zc BK1112 1⟩ (fun hHeld => ?_)
               clear hK K
               refine norm_ (a' := ?_) ?_ ?_
               rotate_left
               ·
                show Act.put _ (some 14) _ = _
                simp only [Act.put, List.setIfInBounds_toArray, List.set_cons_zero, List.set_cons_succ, i64_w, i32_w]; rfl
               refine one_ (i := 1) (N := some 44) #[true, true, true, false, false, false, false, true, false, false] rfl rfl (one_of HT_.out (by kernel_rfl)) (by decide) (fun K hK => ?_)
               refine goes_ Try.func87 (by kernel_rfl) rfl #[.agg #[.int .i64 ((rd_T27 y1095 x22_1).f0), .int .i64 ((rd_T27 y1095 x22_1).f1)]] (by rfl) rfl rfl zq6 ?_
               with_reducible refine (spec_dyMinus.calls ((rd_T27 y1095 x22_1).f0) ((rd_T27 y1095 x22_1).f1) t1117 t1118 _ A30.out).mono ?_
               rintro e w95 ⟨rfl, hb⟩
               refine ⟨_, rfl, ?_⟩
               replace HO_6 := Aside0.mk (Kd.R_below (zq3 HO_6) hb); replace HO_7 := Aside0.mk (Kd.R_below (zq3 HO_7) hb); replace HO_20 := Aside0.mk (Kd.R_below (zq3 HO_20) hb); replace HO_30 := Aside0.mk (Kd.R_below (zq3 HO_30) hb); replace BK1092 := Aside0.mk (zbb BK1092 hb); replace BK1093 := Aside0.mk (zbb BK1093 hb); replace BK1094 := Aside0.mk (zbb BK1094 hb); replace BK1107 := Aside0.mk (zbb BK1107 hb); replace BK1112 := Aside0.mk (zbb BK1112 hb); replace BK1116 := Aside0.mk (zbb BK1116 hb); replace BK1122 := Aside0.mk (zbb BK1122 hb); replace HB := Aside0.mk (below_step (zb1 HB) hb)
               (try clear hb)
               (try clear hb2)
               (try clear hk)
               (try clear hi)
               refine hK.out _ _ ⟨zc BK1107 0, zc BK1107 1, zc BK1112 0, zc BK1112 1⟩ (fun hHeld => ?_)
               clear hK K
               refine norm_ (a' := ?_) ?_ ?_
               rotate_left
               ·
                show Act.put _ (some 44) _ = _
                simp only [Act.put, List.setIfInBounds_toArray, List.set_cons_zero, List.set_cons_succ, i64_w, i32_w]; rfl
               refine one_ (i := 3) (N := some 46) #[true, true, true, true, false, false, false, true, false, false] rfl rfl (one_of HT_.out (by kernel_rfl)) (by decide) (fun K hK => ?_)
               refine goes_ Try.func99 (by kernel_rfl) rfl #[.agg #[.int .i64 t1117, .int .i64 t1118], .agg #[.int .i64 ((rd_T27 y1108 x32_2).f0), .int .i64 ((rd_T27 y1108 x32_2).f1)], .int .i64 16] (by rfl) rfl rfl zq6 ?_
               with_reducible refine (spec_dyDivide.calls k2 t1117 t1118 ((rd_T27 y1108 x32_2).f0) ((rd_T27 y1108 x32_2).f1) 16 t1119 t1120 false _ A31.out).mono ?_
               rintro e w96 ⟨rfl, hb⟩
               refine ⟨_, rfl, ?_⟩
               replace HO_6 := Aside0.mk (Kd.R_below (zq3 HO_6) hb); replace HO_7 := Aside0.mk (Kd.R_below (zq3 HO_7) hb); replace HO_20 := Aside0.mk (Kd.R_below (zq3 HO_20) hb); replace HO_30 := Aside0.mk (Kd.R_below (zq3 HO_30) hb); replace BK1092 := Aside0.mk (zbb BK1092 hb); replace BK1093 := Aside0.mk (zbb BK1093 hb); replace BK1094 := Aside0.mk (zbb BK1094 hb); replace BK1107 := Aside0.mk (zbb BK1107 hb); replace BK1112 := Aside0.mk (zbb BK1112 hb); replace BK1116 := Aside0.mk (zbb BK1116 hb); replace BK1122 := Aside0.mk (zbb BK1122 hb); replace HB := Aside0.mk (below_step (zb1 HB) hb)
               (try clear hb)
               (try clear hb2)
               (try clear hk)
               (try clear hi)
               refine hK.out _ _ ⟨zc BK1107 0, zc BK1107 1, zc BK1112 0, zc BK1112 1⟩ (fun hHeld => ?_)
               clear hK K
               refine norm_ (a' := ?_) ?_ ?_
               rotate_left
               ·
                show Act.put _ (some 46) _ = _
                simp only [Act.put, List.setIfInBounds_toArray, List.set_cons_zero, List.set_cons_succ, i64_w, i32_w]; rfl
               refine pure_ (i := 4) (N := some 42) (v := ?_) (a' := ?_) #[true, true, true, true, true, false, false, true, false, false] rfl rfl (any_of HT_.out (by kernel_rfl)) (fun _ _ _ h => h) (Or.inl ⟨by rfl, ?_⟩) ?_ ?_
               rotate_left
               ·
                intro w'
                first | (go_simp; with_reducible rfl) | (go_simp; simp only [Instr.field]; go_simp; simp only [asAgg]; go_simp; rfl)
               rotate_left
               ·
                simp only [Act.put, List.setIfInBounds_toArray, List.set_cons_zero, List.set_cons_succ, i64_w, i32_w]
                rfl
               refine pure_ (i := 5) (N := some 47) (v := ?_) (a' := ?_) #[true, true, true, true, true, true, false, true, false, false] rfl rfl (any_of HT_.out (by kernel_rfl)) (fun _ _ _ h => h) (Or.inl ⟨by rfl, ?_⟩) ?_ ?_
               rotate_left
               ·
                intro w'
                first | (go_simp; with_reducible rfl) | (go_simp; simp only [Instr.field]; go_simp; simp only [asAgg]; go_simp; rfl)
               rotate_left
               ·
                simp only [Act.put, List.setIfInBounds_toArray, List.set_cons_zero, List.set_cons_succ, i64_w, i32_w]
                rfl
               refine pure_ (i := 6) (N := some 48) (v := ?_) (a' := ?_) #[true, true, true, true, true, true, true, true, false, false] rfl rfl (any_of HT_.out (by kernel_rfl)) (fun _ _ _ h => h) (Or.inl ⟨by rfl, ?_⟩) ?_ ?_
               rotate_left
               ·
                intro w'
                first | (go_simp; with_reducible rfl) | (go_simp; simp only [Instr.field]; go_simp; simp only [asAgg]; go_simp; rfl)
               rotate_left
               ·
                simp only [Act.put, List.setIfInBounds_toArray, List.set_cons_zero, List.set_cons_succ, i64_w, i32_w]
                rfl
               exact norm_ (by simp only [putAll, Act.put, List.setIfInBounds_toArray, List.set_cons_zero, List.set_cons_succ]) (hCont (gb1122) _ ⟨hHeld, (by (with_reducible repeat (first | apply Kd.R_alloc | apply Kd.R_drewN | apply Kd.R_drew)); exact Kd.R_mono HO_20.out (fun _ hk => ⟨hk.1.2.2.1, ⟨hk.1.1, ⟨hk.1.2.1, ⟨hk.1.2.2.2.1, ⟨hk.1.2.2.2.2.1, ⟨hk.1.2.2.2.2.2, hk.2⟩⟩⟩⟩⟩⟩)), (by (with_reducible repeat (first | apply Kd.R_alloc | apply Kd.R_drewN | apply Kd.R_drew)); exact Kd.R_mono HO_30.out (fun _ hk => ⟨hk.1.2.2.1, ⟨hk.1.1, ⟨hk.1.2.1, ⟨hk.1.2.2.2.1, ⟨hk.1.2.2.2.2.1, ⟨hk.1.2.2.2.2.2, hk.2⟩⟩⟩⟩⟩⟩)), (by (with_reducible repeat (first | apply Kd.R_alloc | apply Kd.R_drewN | apply Kd.R_drew)); exact Kd.R_mono HO_6.out (fun _ hk => ⟨hk.1.2.1, ⟨hk.1.2.2.1, ⟨hk.1.1, ⟨hk.1.2.2.2.1, ⟨hk.1.2.2.2.2.1, ⟨hk.1.2.2.2.2.2, hk.2⟩⟩⟩⟩⟩⟩)), (by (with_reducible repeat (first | apply Kd.R_alloc | apply Kd.R_drewN | apply Kd.R_drew)); exact Kd.R_mono HO_7.out (fun _ hk => ⟨hk.1.2.1, ⟨hk.1.2.2.1, ⟨hk.1.1, ⟨hk.1.2.2.2.1, ⟨hk.1.2.2.2.2.1, ⟨hk.1.2.2.2.2.2, hk.2⟩⟩⟩⟩⟩⟩)), (zq1 BK1092), (zq1 BK1093), (zq1 BK1094), (zq1 BK1107), (zq1 BK1112), (zq1 BK1116), (zq1 BK1122), GW1122.out, GE1122.out, NB1092_1122.out, NB1122_1092.out, NB1093_1122.out, NB1122_1093.out, NB1094_1122.out, NB1122_1094.out, NB1107_1122.out, NB1122_1107.out, NB1112_1122.out, NB1122_1112.out, NB1116_1122.out, NB1122_1116.out, (zb1 HB)⟩)
             rintro gb1122 w97 ⟨hS_, h0_, h1_, h2_, h3_, h4_, h5_, h6_, h7_, h8_, h9_, h10_, h11_, h12_, h13_, h14_, h15_, h16_, h17_, h18_, h19_, h20_, h21_, h22_, h23_, h24_, h25_⟩
             have BK1122 : Aside0 (w97.heap[gb1122]? = some (.cells #[.int .i64 0, .int .i64 0] 27 (0, 0))) := ⟨h10_⟩
             have GW1122 : Aside0 (w.heap.size ≤ gb1122) := ⟨h11_⟩
             have GE1122 : Aside0 (w.heap.size ≤ gb1122) := ⟨h12_⟩
             have NB1092_1122 : Aside0 (gb1092 ≠ gb1122) := ⟨h13_⟩
             have NB1122_1092 : Aside0 (gb1122 ≠ gb1092) := ⟨h14_⟩
             have NB1093_1122 : Aside0 (gb1093 ≠ gb1122) := ⟨h15_⟩
             have NB1122_1093 : Aside0 (gb1122 ≠ gb1093) := ⟨h16_⟩
             have NB1094_1122 : Aside0 (gb1094 ≠ gb1122) := ⟨h17_⟩
             have NB1122_1094 : Aside0 (gb1122 ≠ gb1094) := ⟨h18_⟩
             have NB1107_1122 : Aside0 (gb1107 ≠ gb1122) := ⟨h19_⟩
             have NB1122_1107 : Aside0 (gb1122 ≠ gb1107) := ⟨h20_⟩
             have NB1112_1122 : Aside0 (gb1112 ≠ gb1122) := ⟨h21_⟩
             have NB1122_1112 : Aside0 (gb1122 ≠ gb1112) := ⟨h22_⟩
             have NB1116_1122 : Aside0 (gb1116 ≠ gb1122) := ⟨h23_⟩
             have NB1122_1116 : Aside0 (gb1122 ≠ gb1116) := ⟨h24_⟩
             replace HO_20 : Aside0 (Kd.R k27 27 w97 w.heap.size (fun k_ => some k_ ≠ (.slice (some ad1111) y1108.length co25 : Value).ownBlock ∧ some k_ ≠ (u6 : Value).ownBlock ∧ some k_ ≠ (u7 : Value).ownBlock ∧ k_ ≠ gb1107 ∧ k_ ≠ gb1112 ∧ k_ ≠ gb1116 ∧ k_ ≠ gb1122) (.slice (some ad1106) y1095.length co11) y1095) := ⟨h0_⟩; replace HO_30 : Aside0 (Kd.R k27 27 w97 w.heap.size (fun k_ => some k_ ≠ (.slice (some ad1106) y1095.length co11 : Value).ownBlock ∧ some k_ ≠ (u6 : Value).ownBlock ∧ some k_ ≠ (u7 : Value).ownBlock ∧ k_ ≠ gb1107 ∧ k_ ≠ gb1112 ∧ k_ ≠ gb1116 ∧ k_ ≠ gb1122) (.slice (some ad1111) y1108.length co25) y1108) := ⟨h1_⟩; replace HO_6 : Aside0 (Kd.R k27 27 w97 w.heap.size (fun k_ => some k_ ≠ (.slice (some ad1106) y1095.length co11 : Value).ownBlock ∧ some k_ ≠ (.slice (some ad1111) y1108.length co25 : Value).ownBlock ∧ some k_ ≠ (u7 : Value).ownBlock ∧ k_ ≠ gb1107 ∧ k_ ≠ gb1112 ∧ k_ ≠ gb1116 ∧ k_ ≠ gb1122) u6 x6_2) := ⟨h2_⟩; replace HO_7 : Aside0 (Kd.R k27 27 w97 w.heap.size (fun k_ => some k_ ≠ (.slice (some ad1106) y1095.length co11 : Value).ownBlock ∧ some k_ ≠ (.slice (some ad1111) y1108.length co25 : Value).ownBlock ∧ some k_ ≠ (u6 : Value).ownBlock ∧ k_ ≠ gb1107 ∧ k_ ≠ gb1112 ∧ k_ ≠ gb1116 ∧ k_ ≠ gb1122) u7 x7_2) := ⟨h3_⟩; replace BK1092 : Aside0 (w97.heap[gb1092]? = some (.cells #[.int .i64 a0_0, .int .i64 a0_1, .int .i64 a0_2, .int .i64 a0_3] 29 (0, 0))) := ⟨h4_⟩; replace BK1093 : Aside0 (w97.heap[gb1093]? = some (.cells #[.int .i64 a1_0, .int .i64 a1_1, .int .i64 a1_2, .int .i64 a1_3] 29 (0, 0))) := ⟨h5_⟩; replace BK1094 : Aside0 (w97.heap[gb1094]? = some (.cells #[.int .i64 x1095000_2, .int .i64 x1095001_2, .int .i64 x1095002_2, .int .i64 x1095003_2] 29 (0, 0))) := ⟨h6_⟩; replace BK1107 : Aside0 (w97.heap[gb1107]? = some (.cells #[.int .i64 ((rd_T27 y1095 x22_1).f0), .int .i64 ((rd_T27 y1095 x22_1).f1)] 27 (0, 0))) := ⟨h7_⟩; replace BK1112 : Aside0 (w97.heap[gb1112]? = some (.cells #[.int .i64 ((rd_T27 y1108 x32_2).f0), .int .i64 ((rd_T27 y1108 x32_2).f1)] 27 (0, 0))) := ⟨h8_⟩; replace BK1116 : Aside0 (w97.heap[gb1116]? = some (.cells #[.int .i64 t1113, .int .i64 t1114] 27 (0, 0))) := ⟨h9_⟩; replace HB : Aside0 (Below w.heap.size w w97) := ⟨h25_⟩
             clear h0_ h10_ h11_ h12_ h13_ h14_ h15_ h16_ h17_ h18_ h19_ h1_ h20_ h21_ h22_ h23_ h24_ h25_ h2_ h3_ h4_ h5_ h6_ h7_ h8_ h9_
             have hHeld : w97.cell? ⟨gb1107, 0, none⟩ = some (.int .i64 ((rd_T27 y1095 x22_1).f0)) ∧ w97.cell? ⟨gb1107, 1, none⟩ = some (.int .i64 ((rd_T27 y1095 x22_1).f1)) ∧ w97.cell? ⟨gb1112, 0, none⟩ = some (.int .i64 ((rd_T27 y1108 x32_2).f0)) ∧ w97.cell? ⟨gb1112, 1, none⟩ = some (.int .i64 ((rd_T27 y1108 x32_2).f1)) := hS_
             refine norm_ (a' := ?_) ?_ ?_
             rotate_left
             ·
              simp only [putAll, Act.put, List.setIfInBounds_toArray, List.set_cons_zero, List.set_cons_succ]
              rfl
             refine one_ (i := 8) (N := none) #[true, true, true, true, true, true, true, true, true, false] rfl rfl (one_of HT_.out (by kernel_rfl)) (by decide) (fun K hK => ?_)
             have hs98 : w97.cell? ⟨gb1122, 0, none⟩ = some (.int .i64 0) := zc BK1122 0
             have hfs98 := blk_frozen BK1122.out 0
             have hns98_0 := NB1092_1122.out
             have hns98_1 := NB1093_1122.out
             have hns98_2 := NB1094_1122.out
             have hns98_3 := NB1107_1122.out
             have hns98_4 := NB1112_1122.out
             have hns98_5 := NB1116_1122.out
             have hms98_0 := NB1122_1092.out
             have hms98_1 := NB1122_1093.out
             have hms98_2 := NB1122_1094.out
             have hms98_3 := NB1122_1107.out
             have hms98_4 := NB1122_1112.out
             have hms98_5 := NB1122_1116.out
             have hs99 : w97.cell? ⟨gb1122, 1, none⟩ = some (.int .i64 0) := zc BK1122 1
             have hfs99 := blk_frozen BK1122.out 1
             have hns99_0 := NB1092_1122.out
             have hns99_1 := NB1093_1122.out
             have hns99_2 := NB1094_1122.out
             have hns99_3 := NB1107_1122.out
             have hns99_4 := NB1112_1122.out
             have hns99_5 := NB1116_1122.out
             have hms99_0 := NB1122_1092.out
             have hms99_1 := NB1122_1093.out
             have hms99_2 := NB1122_1094.out
             have hms99_3 := NB1122_1107.out
             have hms99_4 := NB1122_1112.out
             have hms99_5 := NB1122_1116.out
             refine skip_ (w1 := ?_) (by rfl) rfl ?_ ?_
             rotate_left
             ·
              go_simp
              rfl
             refine hK.out _ _ ⟨((cell_far (p := ⟨gb1122, _, none⟩) NB1107_1122.out _).trans (((cell_far (p := ⟨gb1122, _, none⟩) NB1107_1122.out _).trans (hHeld.1)))), ((cell_far (p := ⟨gb1122, _, none⟩) NB1107_1122.out _).trans (((cell_far (p := ⟨gb1122, _, none⟩) NB1107_1122.out _).trans (hHeld.2.1)))), ((cell_far (p := ⟨gb1122, _, none⟩) NB1112_1122.out _).trans (((cell_far (p := ⟨gb1122, _, none⟩) NB1112_1122.out _).trans (hHeld.2.2.1)))), ((cell_far (p := ⟨gb1122, _, none⟩) NB1112_1122.out _).trans (((cell_far (p := ⟨gb1122, _, none⟩) NB1112_1122.out _).trans (hHeld.2.2.2))))⟩ (fun hHeld => ?_)
             clear hK K
             refine pure_ (i := 9) (N := some 15) (v := ?_) (a' := ?_) #[true, true, true, true, true, true, true, true, true, true] rfl rfl (any_of HT_.out (by kernel_rfl)) (fun _ _ _ h => h) (Or.inl ⟨by rfl, ?_⟩) ?_ ?_
             rotate_left
             ·
              intro w'
              first | (go_simp; with_reducible rfl) | (go_simp; simp only [Instr.field]; go_simp; simp only [asAgg]; go_simp; rfl)
             rotate_left
             ·
              simp only [Act.put, List.setIfInBounds_toArray, List.set_cons_zero, List.set_cons_succ, i64_w, i32_w]
              rfl
             refine done_ (done_of HT_.out (by kernel_rfl)) ?_
             have hnb100 := NB1094_1092.out
             have hnc100 := NB1092_1094.out
             have hnb101 := NB1094_1093.out
             have hnc101 := NB1093_1094.out
             have hnb102 := NB1094_1122.out
             have hnc102 := NB1122_1094.out
             have hcz103_0 : w97.cell? ⟨gb1094, 0, none⟩ = some (.int .i64 x1095000_2) := zc BK1094 0
             have hcz103_1 : w97.cell? ⟨gb1094, 1, none⟩ = some (.int .i64 x1095001_2) := zc BK1094 1
             have hcz103_2 : w97.cell? ⟨gb1094, 2, none⟩ = some (.int .i64 x1095002_2) := zc BK1094 2
             have hcz103_3 : w97.cell? ⟨gb1094, 3, none⟩ = some (.int .i64 x1095003_2) := zc BK1094 3
             have hfz103_0 := blk_frozen BK1094.out 0
             have hfz103_1 := blk_frozen BK1094.out 1
             have hfz103_2 := blk_frozen BK1094.out 2
             have hfz103_3 := blk_frozen BK1094.out 3
             try go_wp2
             refine bodyPost_ret (results_ct rfl _ _ gb1094 29 #[.int .i64 0, .int .i64 0, .int .i64 0, .int .i64 0] (0, 0) _ rfl (by (with_reducible repeat (first | refine blk_drewN ?_ _ | refine blk_drew ?_ | refine blk_alloc ?_ _)); refine blk_put (cs := #[.int .i64 0, .int .i64 0, .int .i64 0, .int .i64 x1095003_2]) ?_ 3 _ rfl; (with_reducible repeat (first | refine blk_drewN ?_ _ | refine blk_drew ?_ | refine blk_alloc ?_ _)); refine blk_put (cs := #[.int .i64 0, .int .i64 0, .int .i64 x1095002_2, .int .i64 x1095003_2]) ?_ 2 _ rfl; (with_reducible repeat (first | refine blk_drewN ?_ _ | refine blk_drew ?_ | refine blk_alloc ?_ _)); refine blk_put (cs := #[.int .i64 0, .int .i64 x1095001_2, .int .i64 x1095002_2, .int .i64 x1095003_2]) ?_ 1 _ rfl; (with_reducible repeat (first | refine blk_drewN ?_ _ | refine blk_drew ?_ | refine blk_alloc ?_ _)); refine blk_put (cs := #[.int .i64 x1095000_2, .int .i64 x1095001_2, .int .i64 x1095002_2, .int .i64 x1095003_2]) ?_ 0 _ rfl; (with_reducible repeat (first | refine blk_drewN ?_ _ | refine blk_drew ?_ | refine blk_alloc ?_ _)); refine blk_far ?_ NB1094_1122.out _; (with_reducible repeat (first | refine blk_drewN ?_ _ | refine blk_drew ?_ | refine blk_alloc ?_ _)); refine blk_far ?_ NB1094_1122.out _; (with_reducible repeat (first | refine blk_drewN ?_ _ | refine blk_drew ?_ | refine blk_alloc ?_ _)); exact BK1094.out) Try.underlying29 rfl (by kernel_rfl)) rfl ?_
             exact ⟨by first | rfl | (simp [errW_none, errW_some] <;> rfl) | (simp [*, errW_none, errW_some] <;> rfl), (zb1 HB)⟩
           ·
            replace c32 := Bool.eq_false_iff.mpr c32
            subst c32
            have H1 : (some (0, 0, 0, 0, false)) = some (r1, r2, r3, r4, r5) := by rw [if_neg (show ¬ (false = true) by decide)] at H; exact H
            clear H
            have H := H1
            clear H1
            simp only [Option.some.injEq, Prod.mk.injEq] at H
            obtain ⟨rfl, rfl, rfl, rfl, rfl⟩ := H
            have p1111 : 0 ≤ (x32_2 : Int) := of_decide_eq_true (by first | (with_reducible assumption) | assumption)
            have q1111 : x32_2 < (y1108.length : Int) := of_decide_eq_true (by first | (with_reducible assumption) | assumption)
            obtain ⟨ad1111, e1111, hx1111_0, hx1111_1⟩ := at_T27 (Kd.R_reads' HO_30.out).2.2 x32_2 p1111 q1111
            cases e1111
            replace p1111 := eq_true p1111
            replace q1111 := eq_true q1111
            try go_wp2_with (first | ((with_reducible refine gate_dst (N := 11) rfl ?_); refine zbe (N := 11) (cs := #[.int .i64 0, .int .i64 0]) (t := 27) ?_; intro gb1112 hg w104 hbox hb; have BK1112 := Aside0.mk (hbox); have GW1112 := Aside0.mk (zge (zb1 HB) hg); have GE1112 := GW1112; have NB1092_1112 := Aside0.mk (zlt BK1092 hg); have NB1112_1092 := Aside0.mk (zgt BK1092 hg); have NB1093_1112 := Aside0.mk (zlt BK1093 hg); have NB1112_1093 := Aside0.mk (zgt BK1093 hg); have NB1094_1112 := Aside0.mk (zlt BK1094 hg); have NB1112_1094 := Aside0.mk (zgt BK1094 hg); have NB1107_1112 := Aside0.mk (zlt BK1107 hg); have NB1112_1107 := Aside0.mk (zgt BK1107 hg); replace HO_6 := Aside0.mk (Kd.R_below (Kd.R_elderB (zq3 HO_6) gb1112 (Nat.le_of_eq hg.symm)) hb); replace HO_7 := Aside0.mk (Kd.R_below (Kd.R_elderB (zq3 HO_7) gb1112 (Nat.le_of_eq hg.symm)) hb); replace HO_20 := Aside0.mk (Kd.R_below (Kd.R_elderB (zq3 HO_20) gb1112 (Nat.le_of_eq hg.symm)) hb); replace HO_30 := Aside0.mk (Kd.R_below (Kd.R_elderB (zq3 HO_30) gb1112 (Nat.le_of_eq hg.symm)) hb); replace BK1092 := Aside0.mk (zbb BK1092 hb); replace BK1093 := Aside0.mk (zbb BK1093 hb); replace BK1094 := Aside0.mk (zbb BK1094 hb); replace BK1107 := Aside0.mk (zbb BK1107 hb); replace HB := Aside0.mk (below_step (zb1 HB) hb); clear hb hbox hg; have hnb105 := NB1112_1092.out; have hnc105 := NB1092_1112.out; have hnb106 := NB1112_1093.out; have hnc106 := NB1093_1112.out; have hnb107 := NB1112_1094.out; have hnc107 := NB1094_1112.out; have hnb108 := NB1112_1107.out; have hnc108 := NB1107_1112.out; have hcz109_0 : w104.cell? ⟨gb1112, 0, none⟩ = some (.int .i64 0) := zc BK1112 0; have hcz109_1 : w104.cell? ⟨gb1112, 1, none⟩ = some (.int .i64 0) := zc BK1112 1; have hfz109_0 := blk_frozen BK1112.out 0; have hfz109_1 := blk_frozen BK1112.out 1; have hnb110 := NB1107_1092.out; have hnc110 := NB1092_1107.out; have hnb111 := NB1107_1093.out; have hnc111 := NB1093_1107.out; have hnb112 := NB1107_1094.out; have hnc112 := NB1094_1107.out; have hcz113_0 : w104.cell? ⟨gb1107, 0, none⟩ = some (.int .i64 ((rd_T27 y1095 x22_1).f0)) := zc BK1107 0; have hcz113_1 : w104.cell? ⟨gb1107, 1, none⟩ = some (.int .i64 ((rd_T27 y1095 x22_1).f1)) := zc BK1107 1; have hfz113_0 := blk_frozen BK1107.out 0; have hfz113_1 := blk_frozen BK1107.out 1) | ((with_reducible refine gate_callee (f := 99) rfl ?_); refine goesL_ (some 39) rfl rfl Try.func99 (by kernel_rfl) rfl #[.agg #[.int .i64 ((rd_T27 y1095 x22_1).f0), .int .i64 ((rd_T27 y1095 x22_1).f1)], .agg #[.int .i64 ((rd_T27 y1108 x32_2).f0), .int .i64 ((rd_T27 y1108 x32_2).f1)], .int .i64 16] rfl zq6 ?_; (with_reducible refine (spec_dyDivide.calls k2 ((rd_T27 y1095 x22_1).f0) ((rd_T27 y1095 x22_1).f1) ((rd_T27 y1108 x32_2).f0) ((rd_T27 y1108 x32_2).f1) 16 t1113 t1114 false _ A29.out).mono ?_); rintro e w114 ⟨rfl, hb⟩; refine ⟨_, rfl, ?_⟩; replace HO_6 := Aside0.mk (Kd.R_below (by (with_reducible repeat (first | apply Kd.R_alloc | apply Kd.R_drewN | apply Kd.R_drew)); exact (Kd.R_mono (Kd.R_far (p := ⟨gb1112, 1, none⟩) (Kd.R_far (p := ⟨gb1112, 0, none⟩) (Kd.R_mono HO_6.out (fun k_ hk => (⟨hk, hk.2⟩ : _ ∧ k_ ≠ gb1112))) (fun _ hk => hk.2) (.int .i64 ((rd_T27 y1108 x32_2).f0))) (fun _ hk => hk.2) (.int .i64 ((rd_T27 y1108 x32_2).f1))) (fun _ h_ => h_.1))) hb); replace HO_7 := Aside0.mk (Kd.R_below (by (with_reducible repeat (first | apply Kd.R_alloc | apply Kd.R_drewN | apply Kd.R_drew)); exact (Kd.R_mono (Kd.R_far (p := ⟨gb1112, 1, none⟩) (Kd.R_far (p := ⟨gb1112, 0, none⟩) (Kd.R_mono HO_7.out (fun k_ hk => (⟨hk, hk.2⟩ : _ ∧ k_ ≠ gb1112))) (fun _ hk => hk.2) (.int .i64 ((rd_T27 y1108 x32_2).f0))) (fun _ hk => hk.2) (.int .i64 ((rd_T27 y1108 x32_2).f1))) (fun _ h_ => h_.1))) hb); replace HO_20 := Aside0.mk (Kd.R_below (by (with_reducible repeat (first | apply Kd.R_alloc | apply Kd.R_drewN | apply Kd.R_drew)); exact (Kd.R_mono (Kd.R_far (p := ⟨gb1112, 1, none⟩) (Kd.R_far (p := ⟨gb1112, 0, none⟩) (Kd.R_mono HO_20.out (fun k_ hk => (⟨hk, hk.2⟩ : _ ∧ k_ ≠ gb1112))) (fun _ hk => hk.2) (.int .i64 ((rd_T27 y1108 x32_2).f0))) (fun _ hk => hk.2) (.int .i64 ((rd_T27 y1108 x32_2).f1))) (fun _ h_ => h_.1))) hb); replace HO_30 := Aside0.mk (Kd.R_below (by (with_reducible repeat (first | apply Kd.R_alloc | apply Kd.R_drewN | apply Kd.R_drew)); exact (Kd.R_mono (Kd.R_far (p := ⟨gb1112, 1, none⟩) (Kd.R_far (p := ⟨gb1112, 0, none⟩) (Kd.R_mono HO_30.out (fun k_ hk => (⟨hk, hk.2⟩ : _ ∧ k_ ≠ gb1112))) (fun _ hk => hk.2) (.int .i64 ((rd_T27 y1108 x32_2).f0))) (fun _ hk => hk.2) (.int .i64 ((rd_T27 y1108 x32_2).f1))) (fun _ h_ => h_.1))) hb); replace BK1092 := Aside0.mk (blk_below (g := gb1092) (o := .cells #[.int .i64 a0_0, .int .i64 a0_1, .int .i64 a0_2, .int .i64 a0_3] 29 (0, 0)) (zq5 BK1092) hb); replace BK1093 := Aside0.mk (blk_below (g := gb1093) (o := .cells #[.int .i64 a1_0, .int .i64 a1_1, .int .i64 a1_2, .int .i64 a1_3] 29 (0, 0)) (zq5 BK1093) hb); replace BK1094 := Aside0.mk (blk_below (g := gb1094) (o := .cells #[.int .i64 x1095000_2, .int .i64 x1095001_2, .int .i64 x1095002_2, .int .i64 x1095003_2] 29 (0, 0)) (zq5 BK1094) hb); replace BK1107 := Aside0.mk (blk_below (g := gb1107) (o := .cells #[.int .i64 ((rd_T27 y1095 x22_1).f0), .int .i64 ((rd_T27 y1095 x22_1).f1)] 27 (0, 0)) (zq5 BK1107) hb); replace BK1112 := Aside0.mk (blk_below (g := gb1112) (o := .cells #[.int .i64 ((rd_T27 y1108 x32_2).f0), .int .i64 ((rd_T27 y1108 x32_2).f1)] 27 (0, 0)) (by (with_reducible repeat (first | refine blk_drewN ?_ _ | refine blk_drew ?_ | refine blk_alloc ?_ _)); refine blk_put (cs := #[.int .i64 ((rd_T27 y1108 x32_2).f0), .int .i64 0]) ?_ 1 _ rfl; (with_reducible repeat (first | refine blk_drewN ?_ _ | refine blk_drew ?_ | refine blk_alloc ?_ _)); refine blk_put (cs := #[.int .i64 0, .int .i64 0]) ?_ 0 _ rfl; (with_reducible repeat (first | refine blk_drewN ?_ _ | refine blk_drew ?_ | refine blk_alloc ?_ _)); exact BK1112.out) hb); replace HB := Aside0.mk (below_step (zb1 HB) hb); (try clear hb); (try clear hb2); (try clear hk); (try clear hi)) | ((with_reducible refine gate_dst (N := 12) rfl ?_); refine zbe (N := 12) (cs := #[.int .i64 0, .int .i64 0]) (t := 27) ?_; intro gb1116 hg w115 hbox hb; have BK1116 := Aside0.mk (hbox); have GW1116 := Aside0.mk (zge (zb1 HB) hg); have GE1116 := GW1116; have NB1092_1116 := Aside0.mk (zlt BK1092 hg); have NB1116_1092 := Aside0.mk (zgt BK1092 hg); have NB1093_1116 := Aside0.mk (zlt BK1093 hg); have NB1116_1093 := Aside0.mk (zgt BK1093 hg); have NB1094_1116 := Aside0.mk (zlt BK1094 hg); have NB1116_1094 := Aside0.mk (zgt BK1094 hg); have NB1107_1116 := Aside0.mk (zlt BK1107 hg); have NB1116_1107 := Aside0.mk (zgt BK1107 hg); have NB1112_1116 := Aside0.mk (zlt BK1112 hg); have NB1116_1112 := Aside0.mk (zgt BK1112 hg); replace HO_6 := Aside0.mk (Kd.R_below (Kd.R_elderB (zq3 HO_6) gb1116 (Nat.le_of_eq hg.symm)) hb); replace HO_7 := Aside0.mk (Kd.R_below (Kd.R_elderB (zq3 HO_7) gb1116 (Nat.le_of_eq hg.symm)) hb); replace HO_20 := Aside0.mk (Kd.R_below (Kd.R_elderB (zq3 HO_20) gb1116 (Nat.le_of_eq hg.symm)) hb); replace HO_30 := Aside0.mk (Kd.R_below (Kd.R_elderB (zq3 HO_30) gb1116 (Nat.le_of_eq hg.symm)) hb); replace BK1092 := Aside0.mk (zbb BK1092 hb); replace BK1093 := Aside0.mk (zbb BK1093 hb); replace BK1094 := Aside0.mk (zbb BK1094 hb); replace BK1107 := Aside0.mk (zbb BK1107 hb); replace BK1112 := Aside0.mk (zbb BK1112 hb); replace HB := Aside0.mk (below_step (zb1 HB) hb); clear hb hbox hg; have hnb116 := NB1116_1092.out; have hnc116 := NB1092_1116.out; have hnb117 := NB1116_1093.out; have hnc117 := NB1093_1116.out; have hnb118 := NB1116_1094.out; have hnc118 := NB1094_1116.out; have hnb119 := NB1116_1107.out; have hnc119 := NB1107_1116.out; have hnb120 := NB1116_1112.out; have hnc120 := NB1112_1116.out; have hcz121_0 : w115.cell? ⟨gb1116, 0, none⟩ = some (.int .i64 0) := zc BK1116 0; have hcz121_1 : w115.cell? ⟨gb1116, 1, none⟩ = some (.int .i64 0) := zc BK1116 1; have hfz121_0 := blk_frozen BK1116.out 0; have hfz121_1 := blk_frozen BK1116.out 1))
            have n0_ : Aside0 (Kd.R k27 27 ((w115.setCell ⟨gb1116, 0, none⟩ (.int .i64 t1113)).setCell ⟨gb1116, 1, none⟩ (.int .i64 t1114)) w.heap.size (fun k_ => some k_ ≠ (u7 : Value).ownBlock ∧ some k_ ≠ (.slice (some ad1106) y1095.length co11 : Value).ownBlock ∧ some k_ ≠ (.slice (some ad1111) y1108.length co25 : Value).ownBlock ∧ k_ ≠ gb1107 ∧ k_ ≠ gb1112 ∧ k_ ≠ gb1116) u6 x6_2) := ⟨by (with_reducible repeat (first | apply Kd.R_alloc | apply Kd.R_drewN | apply Kd.R_drew)); exact Kd.R_mono (Kd.R_far (p := ⟨gb1116, 1, none⟩) (Kd.R_far (p := ⟨gb1116, 0, none⟩) (Kd.R_mono HO_6.out (fun k_ hk => (⟨hk, hk.2⟩ : _ ∧ k_ ≠ gb1116))) (fun _ hk => hk.2) (.int .i64 t1113)) (fun _ hk => hk.2) (.int .i64 t1114)) (fun _ hk => ⟨hk.1.1.1.1, ⟨hk.1.1.1.2.1, ⟨hk.1.1.1.2.2.1, ⟨hk.1.1.1.2.2.2, ⟨hk.1.1.2, hk.1.2⟩⟩⟩⟩⟩)⟩
            have n1_ : Aside0 (Kd.R k27 27 ((w115.setCell ⟨gb1116, 0, none⟩ (.int .i64 t1113)).setCell ⟨gb1116, 1, none⟩ (.int .i64 t1114)) w.heap.size (fun k_ => some k_ ≠ (u6 : Value).ownBlock ∧ some k_ ≠ (.slice (some ad1106) y1095.length co11 : Value).ownBlock ∧ some k_ ≠ (.slice (some ad1111) y1108.length co25 : Value).ownBlock ∧ k_ ≠ gb1107 ∧ k_ ≠ gb1112 ∧ k_ ≠ gb1116) u7 x7_2) := ⟨by (with_reducible repeat (first | apply Kd.R_alloc | apply Kd.R_drewN | apply Kd.R_drew)); exact Kd.R_mono (Kd.R_far (p := ⟨gb1116, 1, none⟩) (Kd.R_far (p := ⟨gb1116, 0, none⟩) (Kd.R_mono HO_7.out (fun k_ hk => (⟨hk, hk.2⟩ : _ ∧ k_ ≠ gb1116))) (fun _ hk => hk.2) (.int .i64 t1113)) (fun _ hk => hk.2) (.int .i64 t1114)) (fun _ hk => ⟨hk.1.1.1.1, ⟨hk.1.1.1.2.1, ⟨hk.1.1.1.2.2.1, ⟨hk.1.1.1.2.2.2, ⟨hk.1.1.2, hk.1.2⟩⟩⟩⟩⟩)⟩
            have n2_ : Aside0 (Kd.R k27 27 ((w115.setCell ⟨gb1116, 0, none⟩ (.int .i64 t1113)).setCell ⟨gb1116, 1, none⟩ (.int .i64 t1114)) w.heap.size (fun k_ => some k_ ≠ (u6 : Value).ownBlock ∧ some k_ ≠ (u7 : Value).ownBlock ∧ some k_ ≠ (.slice (some ad1111) y1108.length co25 : Value).ownBlock ∧ k_ ≠ gb1107 ∧ k_ ≠ gb1112 ∧ k_ ≠ gb1116) (.slice (some ad1106) y1095.length co11) y1095) := ⟨by (with_reducible repeat (first | apply Kd.R_alloc | apply Kd.R_drewN | apply Kd.R_drew)); exact Kd.R_mono (Kd.R_far (p := ⟨gb1116, 1, none⟩) (Kd.R_far (p := ⟨gb1116, 0, none⟩) (Kd.R_mono HO_20.out (fun k_ hk => (⟨hk, hk.2⟩ : _ ∧ k_ ≠ gb1116))) (fun _ hk => hk.2) (.int .i64 t1113)) (fun _ hk => hk.2) (.int .i64 t1114)) (fun _ hk => ⟨hk.1.1.1.1, ⟨hk.1.1.1.2.1, ⟨hk.1.1.1.2.2.1, ⟨hk.1.1.1.2.2.2, ⟨hk.1.1.2, hk.1.2⟩⟩⟩⟩⟩)⟩
            have n3_ : Aside0 (Kd.R k27 27 ((w115.setCell ⟨gb1116, 0, none⟩ (.int .i64 t1113)).setCell ⟨gb1116, 1, none⟩ (.int .i64 t1114)) w.heap.size (fun k_ => some k_ ≠ (u6 : Value).ownBlock ∧ some k_ ≠ (u7 : Value).ownBlock ∧ some k_ ≠ (.slice (some ad1106) y1095.length co11 : Value).ownBlock ∧ k_ ≠ gb1107 ∧ k_ ≠ gb1112 ∧ k_ ≠ gb1116) (.slice (some ad1111) y1108.length co25) y1108) := ⟨by (with_reducible repeat (first | apply Kd.R_alloc | apply Kd.R_drewN | apply Kd.R_drew)); exact Kd.R_mono (Kd.R_far (p := ⟨gb1116, 1, none⟩) (Kd.R_far (p := ⟨gb1116, 0, none⟩) (Kd.R_mono HO_30.out (fun k_ hk => (⟨hk, hk.2⟩ : _ ∧ k_ ≠ gb1116))) (fun _ hk => hk.2) (.int .i64 t1113)) (fun _ hk => hk.2) (.int .i64 t1114)) (fun _ hk => ⟨hk.1.1.1.1, ⟨hk.1.1.1.2.1, ⟨hk.1.1.1.2.2.1, ⟨hk.1.1.1.2.2.2, ⟨hk.1.1.2, hk.1.2⟩⟩⟩⟩⟩)⟩
            have n4_ : Aside0 (((w115.setCell ⟨gb1116, 0, none⟩ (.int .i64 t1113)).setCell ⟨gb1116, 1, none⟩ (.int .i64 t1114)).heap[gb1092]? = some (.cells #[.int .i64 a0_0, .int .i64 a0_1, .int .i64 a0_2, .int .i64 a0_3] 29 (0, 0))) := ⟨zq5 BK1092⟩
            have n5_ : Aside0 (((w115.setCell ⟨gb1116, 0, none⟩ (.int .i64 t1113)).setCell ⟨gb1116, 1, none⟩ (.int .i64 t1114)).heap[gb1093]? = some (.cells #[.int .i64 a1_0, .int .i64 a1_1, .int .i64 a1_2, .int .i64 a1_3] 29 (0, 0))) := ⟨zq5 BK1093⟩
            have n6_ : Aside0 (((w115.setCell ⟨gb1116, 0, none⟩ (.int .i64 t1113)).setCell ⟨gb1116, 1, none⟩ (.int .i64 t1114)).heap[gb1094]? = some (.cells #[.int .i64 x1095000_2, .int .i64 x1095001_2, .int .i64 x1095002_2, .int .i64 x1095003_2] 29 (0, 0))) := ⟨zq5 BK1094⟩
            have n7_ : Aside0 (((w115.setCell ⟨gb1116, 0, none⟩ (.int .i64 t1113)).setCell ⟨gb1116, 1, none⟩ (.int .i64 t1114)).heap[gb1107]? = some (.cells #[.int .i64 ((rd_T27 y1095 x22_1).f0), .int .i64 ((rd_T27 y1095 x22_1).f1)] 27 (0, 0))) := ⟨zq5 BK1107⟩
            have n8_ : Aside0 (((w115.setCell ⟨gb1116, 0, none⟩ (.int .i64 t1113)).setCell ⟨gb1116, 1, none⟩ (.int .i64 t1114)).heap[gb1112]? = some (.cells #[.int .i64 ((rd_T27 y1108 x32_2).f0), .int .i64 ((rd_T27 y1108 x32_2).f1)] 27 (0, 0))) := ⟨zq5 BK1112⟩
            have n9_ : Aside0 (((w115.setCell ⟨gb1116, 0, none⟩ (.int .i64 t1113)).setCell ⟨gb1116, 1, none⟩ (.int .i64 t1114)).heap[gb1116]? = some (.cells #[.int .i64 t1113, .int .i64 t1114] 27 (0, 0))) := ⟨by (with_reducible repeat (first | refine blk_drewN ?_ _ | refine blk_drew ?_ | refine blk_alloc ?_ _)); refine blk_put (cs := #[.int .i64 t1113, .int .i64 0]) ?_ 1 _ rfl; (with_reducible repeat (first | refine blk_drewN ?_ _ | refine blk_drew ?_ | refine blk_alloc ?_ _)); refine blk_put (cs := #[.int .i64 0, .int .i64 0]) ?_ 0 _ rfl; (with_reducible repeat (first | refine blk_drewN ?_ _ | refine blk_drew ?_ | refine blk_alloc ?_ _)); exact BK1116.out⟩
            have n10_ : Aside0 (Below w.heap.size w ((w115.setCell ⟨gb1116, 0, none⟩ (.int .i64 t1113)).setCell ⟨gb1116, 1, none⟩ (.int .i64 t1114))) := ⟨(zb1 HB)⟩
            (try clear HO_6)
            (try clear HO_7)
            (try clear HO_20)
            (try clear HO_30)
            (try clear BK1092)
            (try clear BK1093)
            (try clear BK1094)
            (try clear BK1107)
            (try clear BK1112)
            (try clear BK1116)
            (try clear HB)
            generalize ((w115.setCell ⟨gb1116, 0, none⟩ (.int .i64 t1113)).setCell ⟨gb1116, 1, none⟩ (.int .i64 t1114)) = w122 at n0_ n1_ n2_ n3_ n4_ n5_ n6_ n7_ n8_ n9_ n10_ ⊢
            have HO_6 := n0_; have HO_7 := n1_; have HO_20 := n2_; have HO_30 := n3_; have BK1092 := n4_; have BK1093 := n5_; have BK1094 := n6_; have BK1107 := n7_; have BK1112 := n8_; have BK1116 := n9_; have HB := n10_
            clear n0_ n1_ n2_ n3_ n4_ n5_ n6_ n7_ n8_ n9_ n10_
            replace HO_6 := Aside0.mk (Kd.R_drew HO_6.out); replace HO_7 := Aside0.mk (Kd.R_drew HO_7.out); replace HO_20 := Aside0.mk (Kd.R_drew HO_20.out); replace HO_30 := Aside0.mk (Kd.R_drew HO_30.out); replace BK1092 := Aside0.mk (blk_drew BK1092.out); replace BK1093 := Aside0.mk (blk_drew BK1093.out); replace BK1094 := Aside0.mk (blk_drew BK1094.out); replace BK1107 := Aside0.mk (blk_drew BK1107.out); replace BK1112 := Aside0.mk (blk_drew BK1112.out); replace BK1116 := Aside0.mk (blk_drew BK1116.out); replace HB := Aside0.mk (below_drew1 HB.out)
            refine start_ (n := 10) (S := fun w' => w'.cell? ⟨gb1107, 0, none⟩ = some (.int .i64 ((rd_T27 y1095 x22_1).f0)) ∧ w'.cell? ⟨gb1107, 1, none⟩ = some (.int .i64 ((rd_T27 y1095 x22_1).f1)) ∧ w'.cell? ⟨gb1112, 0, none⟩ = some (.int .i64 ((rd_T27 y1108 x32_2).f0)) ∧ w'.cell? ⟨gb1112, 1, none⟩ = some (.int .i64 ((rd_T27 y1108 x32_2).f1))) (ds := []) #[false, false, false, false, false, false, false, false, false, false] (by kernel_rfl) rfl rfl ⟨zc BK1107 0, zc BK1107 1, zc BK1112 0, zc BK1112 1⟩ (fun hHeld => ?_); refine with_tabW spec_ivDiv.tab9 spec_ivDiv.bits9 (fun HT_ HW_ => ?_)
            generalize w122.drew = w123 at HO_6 HO_7 HO_20 HO_30 BK1092 BK1093 BK1094 BK1107 BK1112 BK1116 HB hHeld ⊢
            refine take_ (i := 0) (N := some 43) (v := ?_) (a' := ?_) #[true, false, false, false, false, false, false, false, false, false] rfl rfl (take_ofW HT_.out HW_.out (by kernel_rfl)) (fun _ _ _ h => h) (Or.inl ⟨by rfl, ?_⟩) hHeld ?_ ?_
            rotate_left
            ·
             rintro w' ⟨s0, s1, s2, s3⟩
             first | (go_simp; with_reducible rfl) | (go_simp; simp only [Instr.field]; go_simp; simp only [asAgg]; go_simp; rfl)
            rotate_left
            ·
             simp only [Act.put, List.setIfInBounds_toArray, List.set_cons_zero, List.set_cons_succ, i64_w, i32_w]
             rfl
            refine take_ (i := 2) (N := some 45) (v := ?_) (a' := ?_) #[true, false, true, false, false, false, false, false, false, false] rfl rfl (take_ofW HT_.out HW_.out (by kernel_rfl)) (fun _ _ _ h => h) (Or.inl ⟨by rfl, ?_⟩) hHeld ?_ ?_
            rotate_left
            ·
             rintro w' ⟨s0, s1, s2, s3⟩
             first | (go_simp; with_reducible rfl) | (go_simp; simp only [Instr.field]; go_simp; simp only [asAgg]; go_simp; rfl)
            rotate_left
            ·
             simp only [Act.put, List.setIfInBounds_toArray, List.set_cons_zero, List.set_cons_succ, i64_w, i32_w]
             rfl
            refine join_ (σ := Nat) 2 #[true, true, true, true, true, true, true, true, false, false] (fun s_ => [(44, .agg #[.int .i64 t1117, .int .i64 t1118]), (46, .tuple #[.agg #[.int .i64 t1119, .int .i64 t1120], .bool t1121]), (14, .pointer (some ⟨s_, 0, none⟩)), (42, .tuple #[.agg #[.int .i64 t1119, .int .i64 t1120], .bool t1121]), (47, .agg #[.int .i64 t1119, .int .i64 t1120]), (48, .bool t1121)]) (fun s_ w' => (w'.cell? ⟨gb1107, 0, none⟩ = some (.int .i64 ((rd_T27 y1095 x22_1).f0)) ∧ w'.cell? ⟨gb1107, 1, none⟩ = some (.int .i64 ((rd_T27 y1095 x22_1).f1)) ∧ w'.cell? ⟨gb1112, 0, none⟩ = some (.int .i64 ((rd_T27 y1108 x32_2).f0)) ∧ w'.cell? ⟨gb1112, 1, none⟩ = some (.int .i64 ((rd_T27 y1108 x32_2).f1))) ∧ (Kd.R k27 27 w' w.heap.size (fun k_ => some k_ ≠ (.slice (some ad1111) y1108.length co25 : Value).ownBlock ∧ some k_ ≠ (u6 : Value).ownBlock ∧ some k_ ≠ (u7 : Value).ownBlock ∧ k_ ≠ gb1107 ∧ k_ ≠ gb1112 ∧ k_ ≠ gb1116 ∧ k_ ≠ s_) (.slice (some ad1106) y1095.length co11) y1095) ∧ (Kd.R k27 27 w' w.heap.size (fun k_ => some k_ ≠ (.slice (some ad1106) y1095.length co11 : Value).ownBlock ∧ some k_ ≠ (u6 : Value).ownBlock ∧ some k_ ≠ (u7 : Value).ownBlock ∧ k_ ≠ gb1107 ∧ k_ ≠ gb1112 ∧ k_ ≠ gb1116 ∧ k_ ≠ s_) (.slice (some ad1111) y1108.length co25) y1108) ∧ (Kd.R k27 27 w' w.heap.size (fun k_ => some k_ ≠ (.slice (some ad1106) y1095.length co11 : Value).ownBlock ∧ some k_ ≠ (.slice (some ad1111) y1108.length co25 : Value).ownBlock ∧ some k_ ≠ (u7 : Value).ownBlock ∧ k_ ≠ gb1107 ∧ k_ ≠ gb1112 ∧ k_ ≠ gb1116 ∧ k_ ≠ s_) u6 x6_2) ∧ (Kd.R k27 27 w' w.heap.size (fun k_ => some k_ ≠ (.slice (some ad1106) y1095.length co11 : Value).ownBlock ∧ some k_ ≠ (.slice (some ad1111) y1108.length co25 : Value).ownBlock ∧ some k_ ≠ (u6 : Value).ownBlock ∧ k_ ≠ gb1107 ∧ k_ ≠ gb1112 ∧ k_ ≠ gb1116 ∧ k_ ≠ s_) u7 x7_2) ∧ (w'.heap[gb1092]? = some (.cells #[.int .i64 a0_0, .int .i64 a0_1, .int .i64 a0_2, .int .i64 a0_3] 29 (0, 0))) ∧ (w'.heap[gb1093]? = some (.cells #[.int .i64 a1_0, .int .i64 a1_1, .int .i64 a1_2, .int .i64 a1_3] 29 (0, 0))) ∧ (w'.heap[gb1094]? = some (.cells #[.int .i64 x1095000_2, .int .i64 x1095001_2, .int .i64 x1095002_2, .int .i64 x1095003_2] 29 (0, 0))) ∧ (w'.heap[gb1107]? = some (.cells #[.int .i64 ((rd_T27 y1095 x22_1).f0), .int .i64 ((rd_T27 y1095 x22_1).f1)] 27 (0, 0))) ∧ (w'.heap[gb1112]? = some (.cells #[.int .i64 ((rd_T27 y1108 x32_2).f0), .int .i64 ((rd_T27 y1108 x32_2).f1)] 27 (0, 0))) ∧ (w'.heap[gb1116]? = some (.cells #[.int .i64 t1113, .int .i64 t1114] 27 (0, 0))) ∧ (w'.heap[s_]? = some (.cells #[.int .i64 0, .int .i64 0] 27 (0, 0))) ∧ (w.heap.size ≤ s_) ∧ (w.heap.size ≤ s_) ∧ (gb1092 ≠ s_) ∧ (s_ ≠ gb1092) ∧ (gb1093 ≠ s_) ∧ (s_ ≠ gb1093) ∧ (gb1094 ≠ s_) ∧ (s_ ≠ gb1094) ∧ (gb1107 ≠ s_) ∧ (s_ ≠ gb1107) ∧ (gb1112 ≠ s_) ∧ (s_ ≠ gb1112) ∧ (gb1116 ≠ s_) ∧ (s_ ≠ gb1116) ∧ (Below w.heap.size w w')) ?_ ?_
            rotate_left
            ·
             intro hCont
             refine two_ (i := 1) (j := 7) (Ni := some 44) (Nj := some 14) #[true, true, true, false, false, false, false, false, false, false] #[true, false, true, false, false, false, false, true, false, false] rfl rfl rfl rfl (two_of HT_.out (by kernel_rfl)) (by decide) (by decide) (fun K hK => ?_) (fun K hK => ?_)
             ·
              refine goes_ Try.func87 (by kernel_rfl) rfl #[.agg #[.int .i64 ((rd_T27 y1095 x22_1).f0), .int .i64 ((rd_T27 y1095 x22_1).f1)]] (by rfl) rfl rfl zq6 ?_
              with_reducible refine (spec_dyMinus.calls ((rd_T27 y1095 x22_1).f0) ((rd_T27 y1095 x22_1).f1) t1117 t1118 _ A30.out).mono ?_
              rintro e w124 ⟨rfl, hb⟩
              refine ⟨_, rfl, ?_⟩
              replace HO_6 := Aside0.mk (Kd.R_below (zq3 HO_6) hb); replace HO_7 := Aside0.mk (Kd.R_below (zq3 HO_7) hb); replace HO_20 := Aside0.mk (Kd.R_below (zq3 HO_20) hb); replace HO_30 := Aside0.mk (Kd.R_below (zq3 HO_30) hb); replace BK1092 := Aside0.mk (zbb BK1092 hb); replace BK1093 := Aside0.mk (zbb BK1093 hb); replace BK1094 := Aside0.mk (zbb BK1094 hb); replace BK1107 := Aside0.mk (zbb BK1107 hb); replace BK1112 := Aside0.mk (zbb BK1112 hb); replace BK1116 := Aside0.mk (zbb BK1116 hb); replace HB := Aside0.mk (below_step (zb1 HB) hb)
              (try clear hb)
              (try clear hb2)
              (try clear hk)
              (try clear hi)
              refine hK.out _ _ ⟨zc BK1107 0, zc BK1107 1, zc BK1112 0, zc BK1112 1⟩ (fun hHeld => ?_)
              clear hK K
              refine norm_ (a' := ?_) ?_ ?_
              rotate_left
              ·
               show Act.put _ (some 44) _ = _
               simp only [Act.put, List.setIfInBounds_toArray, List.set_cons_zero, List.set_cons_succ, i64_w, i32_w]; rfl
              refine two_ (i := 3) (j := 7) (Ni := some 46) (Nj := some 14) #[true, true, true, true, false, false, false, false, false, false] #[true, true, true, false, false, false, false, true, false, false] rfl rfl rfl rfl (two_of HT_.out (by kernel_rfl)) (by decide) (by decide) (fun K hK => ?_) (fun K hK => ?_)
              ·
               refine goes_ Try.func99 (by kernel_rfl) rfl #[.agg #[.int .i64 t1117, .int .i64 t1118], .agg #[.int .i64 ((rd_T27 y1108 x32_2).f0), .int .i64 ((rd_T27 y1108 x32_2).f1)], .int .i64 16] (by rfl) rfl rfl zq6 ?_
               with_reducible refine (spec_dyDivide.calls k2 t1117 t1118 ((rd_T27 y1108 x32_2).f0) ((rd_T27 y1108 x32_2).f1) 16 t1119 t1120 t1121 _ A31.out).mono ?_
               rintro e w125 ⟨rfl, hb⟩
               refine ⟨_, rfl, ?_⟩
               replace HO_6 := Aside0.mk (Kd.R_below (zq3 HO_6) hb); replace HO_7 := Aside0.mk (Kd.R_below (zq3 HO_7) hb); replace HO_20 := Aside0.mk (Kd.R_below (zq3 HO_20) hb); replace HO_30 := Aside0.mk (Kd.R_below (zq3 HO_30) hb); replace BK1092 := Aside0.mk (zbb BK1092 hb); replace BK1093 := Aside0.mk (zbb BK1093 hb); replace BK1094 := Aside0.mk (zbb BK1094 hb); replace BK1107 := Aside0.mk (zbb BK1107 hb); replace BK1112 := Aside0.mk (zbb BK1112 hb); replace BK1116 := Aside0.mk (zbb BK1116 hb); replace HB := Aside0.mk (below_step (zb1 HB) hb)
               (try clear hb)
               (try clear hb2)
               (try clear hk)
               (try clear hi)
               refine hK.out _ _ ⟨zc BK1107 0, zc BK1107 1, zc BK1112 0, zc BK1112 1⟩ (fun hHeld => ?_)
               clear hK K
               refine norm_ (a' := ?_) ?_ ?_
               rotate_left
               ·
                show Act.put _ (some 46) _ = _
                simp only [Act.put, List.setIfInBounds_toArray, List.set_cons_zero, List.set_cons_succ, i64_w, i32_w]; rfl
               refine pure_ (i := 4) (N := some 42) (v := ?_) (a' := ?_) #[true, true, true, true, true, false, false, false, false, false] rfl rfl (any_of HT_.out (by kernel_rfl)) (fun _ _ _ h => h) (Or.inl ⟨by rfl, ?_⟩) ?_ ?_
               rotate_left
               ·
                intro w'
                first | (go_simp; with_reducible rfl) | (go_simp; simp only [Instr.field]; go_simp; simp only [asAgg]; go_simp; rfl)
               rotate_left
               ·
                simp only [Act.put, List.setIfInBounds_toArray, List.set_cons_zero, List.set_cons_succ, i64_w, i32_w]
                rfl
               refine pure_ (i := 5) (N := some 47) (v := ?_) (a' := ?_) #[true, true, true, true, true, true, false, false, false, false] rfl rfl (any_of HT_.out (by kernel_rfl)) (fun _ _ _ h => h) (Or.inl ⟨by rfl, ?_⟩) ?_ ?_
               rotate_left
               ·
                intro w'
                first | (go_simp; with_reducible rfl) | (go_simp; simp only [Instr.field]; go_simp; simp only [asAgg]; go_simp; rfl)
               rotate_left
               ·
                simp only [Act.put, List.setIfInBounds_toArray, List.set_cons_zero, List.set_cons_succ, i64_w, i32_w]
                rfl
               refine pure_ (i := 6) (N := some 48) (v := ?_) (a' := ?_) #[true, true, true, true, true, true, true, false, false, false] rfl rfl (any_of HT_.out (by kernel_rfl)) (fun _ _ _ h => h) (Or.inl ⟨by rfl, ?_⟩) ?_ ?_
               rotate_left
               ·
                intro w'
                first | (go_simp; with_reducible rfl) | (go_simp; simp only [Instr.field]; go_simp; simp only [asAgg]; go_simp; rfl)
               rotate_left
               ·
                simp only [Act.put, List.setIfInBounds_toArray, List.set_cons_zero, List.set_cons_succ, i64_w, i32_w]
                rfl
               refine one_ (i := 7) (N := some 14) #[true, true, true, true, true, true, true, true, false, false] rfl rfl (one_of HT_.out (by kernel_rfl)) (by decide) (fun K hK => ?_)
               refine box_step ?hg (N := 14) ?hd (cs := #[.int .i64 0, .int .i64 0]) (t := 27) ?hr ?_; (case hd => rfl); (case hg => rfl); (case hr => first | (go_simp; done) | (go_simp; rfl))
               intro gb1122 hg w126 hbox hb
               have n0_ := Aside0.mk (Kd.R_below (Kd.R_elderB (zq3 HO_6) gb1122 (Nat.le_of_eq hg.symm)) hb)
               have n1_ := Aside0.mk (Kd.R_below (Kd.R_elderB (zq3 HO_7) gb1122 (Nat.le_of_eq hg.symm)) hb)
               have n2_ := Aside0.mk (Kd.R_below (Kd.R_elderB (zq3 HO_20) gb1122 (Nat.le_of_eq hg.symm)) hb)
               have n3_ := Aside0.mk (Kd.R_below (Kd.R_elderB (zq3 HO_30) gb1122 (Nat.le_of_eq hg.symm)) hb)
               have n4_ := Aside0.mk (zbb BK1092 hb)
               have n5_ := Aside0.mk (zbb BK1093 hb)
               have n6_ := Aside0.mk (zbb BK1094 hb)
               have n7_ := Aside0.mk (zbb BK1107 hb)
               have n8_ := Aside0.mk (zbb BK1112 hb)
               have n9_ := Aside0.mk (zbb BK1116 hb)
               have n10_ := Aside0.mk (below_step (zb1 HB) hb)
               have BK1122 := Aside0.mk (hbox)
               have GW1122 := Aside0.mk (zge (zb1 HB) hg)
               have GE1122 := Aside0.mk (zge (zb1 HB) hg)
               have NB1092_1122 := Aside0.mk (zlt BK1092 hg)
               have NB1122_1092 := Aside0.mk (zgt BK1092 hg)
               have NB1093_1122 := Aside0.mk (zlt BK1093 hg)
               have NB1122_1093 := Aside0.mk (zgt BK1093 hg)
               have NB1094_1122 := Aside0.mk (zlt BK1094 hg)
               have NB1122_1094 := Aside0.mk (zgt BK1094 hg)
               have NB1107_1122 := Aside0.mk (zlt BK1107 hg)
               have NB1122_1107 := Aside0.mk (zgt BK1107 hg)
               have NB1112_1122 := Aside0.mk (zlt BK1112 hg)
               have NB1122_1112 := Aside0.mk (zgt BK1112 hg)
               have NB1116_1122 := Aside0.mk (zlt BK1116 hg)
               have NB1122_1116 := Aside0.mk (zgt BK1116 hg)
               clear HO_6 HO_7 HO_20 HO_30 BK1092 BK1093 BK1094 BK1107 BK1112 BK1116 HB
               have HO_6 := n0_; have HO_7 := n1_; have HO_20 := n2_; have HO_30 := n3_; have BK1092 := n4_; have BK1093 := n5_; have BK1094 := n6_; have BK1107 := n7_; have BK1112 := n8_; have BK1116 := n9_; have HB := n10_
               clear n0_ n1_ n2_ n3_ n4_ n5_ n6_ n7_ n8_ n9_ n10_ hb hbox hg
               refine hK.out _ _ ⟨zc BK1107 0, zc BK1107 1, zc BK1112 0, zc BK1112 1⟩ (fun hHeld => ?_)
               clear hK K
               refine norm_ (a' := ?_) ?_ ?_
               rotate_left
               ·
                show Act.put _ (some 14) _ = _
                simp only [Act.put, List.setIfInBounds_toArray, List.set_cons_zero, List.set_cons_succ, i64_w, i32_w]; rfl
               exact norm_ (by simp only [putAll, Act.put, List.setIfInBounds_toArray, List.set_cons_zero, List.set_cons_succ]) (hCont (gb1122) _ ⟨hHeld, (by (with_reducible repeat (first | apply Kd.R_alloc | apply Kd.R_drewN | apply Kd.R_drew)); exact Kd.R_mono HO_20.out (fun _ hk => ⟨hk.1.2.2.1, ⟨hk.1.1, ⟨hk.1.2.1, ⟨hk.1.2.2.2.1, ⟨hk.1.2.2.2.2.1, ⟨hk.1.2.2.2.2.2, hk.2⟩⟩⟩⟩⟩⟩)), (by (with_reducible repeat (first | apply Kd.R_alloc | apply Kd.R_drewN | apply Kd.R_drew)); exact Kd.R_mono HO_30.out (fun _ hk => ⟨hk.1.2.2.1, ⟨hk.1.1, ⟨hk.1.2.1, ⟨hk.1.2.2.2.1, ⟨hk.1.2.2.2.2.1, ⟨hk.1.2.2.2.2.2, hk.2⟩⟩⟩⟩⟩⟩)), (by (with_reducible repeat (first | apply Kd.R_alloc | apply Kd.R_drewN | apply Kd.R_drew)); exact Kd.R_mono HO_6.out (fun _ hk => ⟨hk.1.2.1, ⟨hk.1.2.2.1, ⟨hk.1.1, ⟨hk.1.2.2.2.1, ⟨hk.1.2.2.2.2.1, ⟨hk.1.2.2.2.2.2, hk.2⟩⟩⟩⟩⟩⟩)), (by (with_reducible repeat (first | apply Kd.R_alloc | apply Kd.R_drewN | apply Kd.R_drew)); exact Kd.R_mono HO_7.out (fun _ hk => ⟨hk.1.2.1, ⟨hk.1.2.2.1, ⟨hk.1.1, ⟨hk.1.2.2.2.1, ⟨hk.1.2.2.2.2.1, ⟨hk.1.2.2.2.2.2, hk.2⟩⟩⟩⟩⟩⟩)), (zq1 BK1092), (zq1 BK1093), (zq1 BK1094), (zq1 BK1107), (zq1 BK1112), (zq1 BK1116), (zq1 BK1122), GW1122.out, GE1122.out, NB1092_1122.out, NB1122_1092.out, NB1093_1122.out, NB1122_1093.out, NB1094_1122.out, NB1122_1094.out, NB1107_1122.out, NB1122_1107.out, NB1112_1122.out, NB1122_1112.out, NB1116_1122.out, NB1122_1116.out, (zb1 HB)⟩)
              ·
               refine box_step ?hg (N := 14) ?hd (cs := #[.int .i64 0, .int .i64 0]) (t := 27) ?hr ?_; (case hd => rfl); (case hg => rfl); (case hr => first | (go_simp; done) | (go_simp; rfl))
               intro gb1122 hg w125 hbox hb
               have n0_ := Aside0.mk (Kd.R_below (Kd.R_elderB (zq3 HO_6) gb1122 (Nat.le_of_eq hg.symm)) hb)
               have n1_ := Aside0.mk (Kd.R_below (Kd.R_elderB (zq3 HO_7) gb1122 (Nat.le_of_eq hg.symm)) hb)
               have n2_ := Aside0.mk (Kd.R_below (Kd.R_elderB (zq3 HO_20) gb1122 (Nat.le_of_eq hg.symm)) hb)
               have n3_ := Aside0.mk (Kd.R_below (Kd.R_elderB (zq3 HO_30) gb1122 (Nat.le_of_eq hg.symm)) hb)
               have n4_ := Aside0.mk (zbb BK1092 hb)
               have n5_ := Aside0.mk (zbb BK1093 hb)
               have n6_ := Aside0.mk (zbb BK1094 hb)
               have n7_ := Aside0.mk (zbb BK1107 hb)
               have n8_ := Aside0.mk (zbb BK1112 hb)
               have n9_ := Aside0.mk (zbb BK1116 hb)
               have n10_ := Aside0.mk (below_step (zb1 HB) hb)
               have BK1122 := Aside0.mk (hbox)
               have GW1122 := Aside0.mk (zge (zb1 HB) hg)
               have GE1122 := Aside0.mk (zge (zb1 HB) hg)
               have NB1092_1122 := Aside0.mk (zlt BK1092 hg)
               have NB1122_1092 := Aside0.mk (zgt BK1092 hg)
               have NB1093_1122 := Aside0.mk (zlt BK1093 hg)
               have NB1122_1093 := Aside0.mk (zgt BK1093 hg)
               have NB1094_1122 := Aside0.mk (zlt BK1094 hg)
               have NB1122_1094 := Aside0.mk (zgt BK1094 hg)
               have NB1107_1122 := Aside0.mk (zlt BK1107 hg)
               have NB1122_1107 := Aside0.mk (zgt BK1107 hg)
               have NB1112_1122 := Aside0.mk (zlt BK1112 hg)
               have NB1122_1112 := Aside0.mk (zgt BK1112 hg)
               have NB1116_1122 := Aside0.mk (zlt BK1116 hg)
               have NB1122_1116 := Aside0.mk (zgt BK1116 hg)
               clear HO_6 HO_7 HO_20 HO_30 BK1092 BK1093 BK1094 BK1107 BK1112 BK1116 HB
               have HO_6 := n0_; have HO_7 := n1_; have HO_20 := n2_; have HO_30 := n3_; have BK1092 := n4_; have BK1093 := n5_; have BK1094 := n6_; have BK1107 := n7_; have BK1112 := n8_; have BK1116 := n9_; have HB := n10_
               clear n0_ n1_ n2_ n3_ n4_ n5_ n6_ n7_ n8_ n9_ n10_ hb hbox hg
               refine hK.out _ _ ⟨zc BK1107 0, zc BK1107 1, zc BK1112 0, zc BK1112 1⟩ (fun hHeld => ?_)
               clear hK K
               refine norm_ (a' := ?_) ?_ ?_
               rotate_left
               ·
                show Act.put _ (some 14) _ = _
                simp only [Act.put, List.setIfInBounds_toArray, List.set_cons_zero, List.set_cons_succ, i64_w, i32_w]; rfl
               refine one_ (i := 3) (N := some 46) #[true, true, true, true, false, false, false, true, false, false] rfl rfl (one_of HT_.out (by kernel_rfl)) (by decide) (fun K hK => ?_)
               refine goes_ Try.func99 (by kernel_rfl) rfl #[.agg #[.int .i64 t1117, .int .i64 t1118], .agg #[.int .i64 ((rd_T27 y1108 x32_2).f0), .int .i64 ((rd_T27 y1108 x32_2).f1)], .int .i64 16] (by rfl) rfl rfl zq6 ?_
               with_reducible refine (spec_dyDivide.calls k2 t1117 t1118 ((rd_T27 y1108 x32_2).f0) ((rd_T27 y1108 x32_2).f1) 16 t1119 t1120 t1121 _ A31.out).mono ?_
               rintro e w126 ⟨rfl, hb⟩
               refine ⟨_, rfl, ?_⟩
               replace HO_6 := Aside0.mk (Kd.R_below (zq3 HO_6) hb); replace HO_7 := Aside0.mk (Kd.R_below (zq3 HO_7) hb); replace HO_20 := Aside0.mk (Kd.R_below (zq3 HO_20) hb); replace HO_30 := Aside0.mk (Kd.R_below (zq3 HO_30) hb); replace BK1092 := Aside0.mk (zbb BK1092 hb); replace BK1093 := Aside0.mk (zbb BK1093 hb); replace BK1094 := Aside0.mk (zbb BK1094 hb); replace BK1107 := Aside0.mk (zbb BK1107 hb); replace BK1112 := Aside0.mk (zbb BK1112 hb); replace BK1116 := Aside0.mk (zbb BK1116 hb); replace BK1122 := Aside0.mk (zbb BK1122 hb); replace HB := Aside0.mk (below_step (zb1 HB) hb)
               (try clear hb)
               (try clear hb2)
               (try clear hk)
               (try clear hi)
               refine hK.out _ _ ⟨zc BK1107 0, zc BK1107 1, zc BK1112 0, zc BK1112 1⟩ (fun hHeld => ?_)
               clear hK K
               refine norm_ (a' := ?_) ?_ ?_
               rotate_left
               ·
                show Act.put _ (some 46) _ = _
                simp only [Act.put, List.setIfInBounds_toArray, List.set_cons_zero, List.set_cons_succ, i64_w, i32_w]; rfl
               refine pure_ (i := 4) (N := some 42) (v := ?_) (a' := ?_) #[true, true, true, true, true, false, false, true, false, false] rfl rfl (any_of HT_.out (by kernel_rfl)) (fun _ _ _ h => h) (Or.inl ⟨by rfl, ?_⟩) ?_ ?_
               rotate_left
               ·
                intro w'
                first | (go_simp; with_reducible rfl) | (go_simp; simp only [Instr.field]; go_simp; simp only [asAgg]; go_simp; rfl)
               rotate_left
               ·
                simp only [Act.put, List.setIfInBounds_toArray, List.set_cons_zero, List.set_cons_succ, i64_w, i32_w]
                rfl
               refine pure_ (i := 5) (N := some 47) (v := ?_) (a' := ?_) #[true, true, true, true, true, true, false, true, false, false] rfl rfl (any_of HT_.out (by kernel_rfl)) (fun _ _ _ h => h) (Or.inl ⟨by rfl, ?_⟩) ?_ ?_
               rotate_left
               ·
                intro w'
                first | (go_simp; with_reducible rfl) | (go_simp; simp only [Instr.field]; go_simp; simp only [asAgg]; go_simp; rfl)
               rotate_left
               ·
                simp only [Act.put, List.setIfInBounds_toArray, List.set_cons_zero, List.set_cons_succ, i64_w, i32_w]
                rfl
               refine pure_ (i := 6) (N := some 48) (v := ?_) (a' := ?_) #[true, true, true, true, true, true, true, true, false, false] rfl rfl (any_of HT_.out (by kernel_rfl)) (fun _ _ _ h => h) (Or.inl ⟨by rfl, ?_⟩) ?_ ?_
               rotate_left
               ·
                intro w'
                first | (go_simp; with_reducible rfl) | (go_simp; simp only [Instr.field]; go_simp; simp only [asAgg]; go_simp; rfl)
               rotate_left
               ·
                simp only [Act.put, List.setIfInBounds_toArray, List.set_cons_zero, List.set_cons_succ, i64_w, i32_w]
                rfl
               exact norm_ (by simp only [putAll, Act.put, List.setIfInBounds_toArray, List.set_cons_zero, List.set_cons_succ]) (hCont (gb1122) _ ⟨hHeld, (by (with_reducible repeat (first | apply Kd.R_alloc | apply Kd.R_drewN | apply Kd.R_drew)); exact Kd.R_mono HO_20.out (fun _ hk => ⟨hk.1.2.2.1, ⟨hk.1.1, ⟨hk.1.2.1, ⟨hk.1.2.2.2.1, ⟨hk.1.2.2.2.2.1, ⟨hk.1.2.2.2.2.2, hk.2⟩⟩⟩⟩⟩⟩)), (by (with_reducible repeat (first | apply Kd.R_alloc | apply Kd.R_drewN | apply Kd.R_drew)); exact Kd.R_mono HO_30.out (fun _ hk => ⟨hk.1.2.2.1, ⟨hk.1.1, ⟨hk.1.2.1, ⟨hk.1.2.2.2.1, ⟨hk.1.2.2.2.2.1, ⟨hk.1.2.2.2.2.2, hk.2⟩⟩⟩⟩⟩⟩)), (by (with_reducible repeat (first | apply Kd.R_alloc | apply Kd.R_drewN | apply Kd.R_drew)); exact Kd.R_mono HO_6.out (fun _ hk => ⟨hk.1.2.1, ⟨hk.1.2.2.1, ⟨hk.1.1, ⟨hk.1.2.2.2.1, ⟨hk.1.2.2.2.2.1, ⟨hk.1.2.2.2.2.2, hk.2⟩⟩⟩⟩⟩⟩)), (by (with_reducible repeat (first | apply Kd.R_alloc | apply Kd.R_drewN | apply Kd.R_drew)); exact Kd.R_mono HO_7.out (fun _ hk => ⟨hk.1.2.1, ⟨hk.1.2.2.1, ⟨hk.1.1, ⟨hk.1.2.2.2.1, ⟨hk.1.2.2.2.2.1, ⟨hk.1.2.2.2.2.2, hk.2⟩⟩⟩⟩⟩⟩)), (zq1 BK1092), (zq1 BK1093), (zq1 BK1094), (zq1 BK1107), (zq1 BK1112), (zq1 BK1116), (zq1 BK1122), GW1122.out, GE1122.out, NB1092_1122.out, NB1122_1092.out, NB1093_1122.out, NB1122_1093.out, NB1094_1122.out, NB1122_1094.out, NB1107_1122.out, NB1122_1107.out, NB1112_1122.out, NB1122_1112.out, NB1116_1122.out, NB1122_1116.out, (zb1 HB)⟩)
             ·
              refine box_step ?hg (N := 14) ?hd (cs := #[.int .i64 0, .int .i64 0]) (t := 27) ?hr ?_; (case hd => rfl); (case hg => rfl); (case hr => first | (go_simp; done) | (go_simp; rfl))
              intro gb1122 hg w124 hbox hb
              have n0_ := Aside0.mk (Kd.R_below (Kd.R_elderB (zq3 HO_6) gb1122 (Nat.le_of_eq hg.symm)) hb)
              have n1_ := Aside0.mk (Kd.R_below (Kd.R_elderB (zq3 HO_7) gb1122 (Nat.le_of_eq hg.symm)) hb)
              have n2_ := Aside0.mk (Kd.R_below (Kd.R_elderB (zq3 HO_20) gb1122 (Nat.le_of_eq hg.symm)) hb)
              have n3_ := Aside0.mk (Kd.R_below (Kd.R_elderB (zq3 HO_30) gb1122 (Nat.le_of_eq hg.symm)) hb)
              have n4_ := Aside0.mk (zbb BK1092 hb)
              have n5_ := Aside0.mk (zbb BK1093 hb)
              have n6_ := Aside0.mk (zbb BK1094 hb)
              have n7_ := Aside0.mk (zbb BK1107 hb)
              have n8_ := Aside0.mk (zbb BK1112 hb)
              have n9_ := Aside0.mk (zbb BK1116 hb)
              have n10_ := Aside0.mk (below_step (zb1 HB) hb)
              have BK1122 := Aside0.mk (hbox)
              have GW1122 := Aside0.mk (zge (zb1 HB) hg)
              have GE1122 := Aside0.mk (zge (zb1 HB) hg)
              have NB1092_1122 := Aside0.mk (zlt BK1092 hg)
              have NB1122_1092 := Aside0.mk (zgt BK1092 hg)
              have NB1093_1122 := Aside0.mk (zlt BK1093 hg)
              have NB1122_1093 := Aside0.mk (zgt BK1093 hg)
              have NB1094_1122 := Aside0.mk (zlt BK1094 hg)
              have NB1122_1094 := Aside0.mk (zgt BK1094 hg)
              have NB1107_1122 := Aside0.mk (zlt BK1107 hg)
              have NB1122_1107 := Aside0.mk (zgt BK1107 hg)
              have NB1112_1122 := Aside0.mk (zlt BK1112 hg)
              have NB1122_1112 := Aside0.mk (zgt BK1112 hg)
              have NB1116_1122 := Aside0.mk (zlt BK1116 hg)
              have NB1122_1116 := Aside0.mk (zgt BK1116 hg)
              clear HO_6 HO_7 HO_20 HO_30 BK1092 BK1093 BK1094 BK1107 BK1112 BK1116 HB
              have HO_6 := n0_; have HO_7 := n1_; have HO_20 := n2_; have HO_30 := n3_; have BK1092 := n4_; have BK1093 := n5_; have BK1094 := n6_; have BK1107 := n7_; have BK1112 := n8_; have BK1116 := n9_; have HB := n10_
              clear n0_ n1_ n2_ n3_ n4_ n5_ n6_ n7_ n8_ n9_ n10_ hb hbox hg
              refine hK.out _ _ ⟨zc BK1107 0, zc BK1107 1, zc BK1112 0, zc BK1112 1⟩ (fun hHeld => ?_)
              clear hK K
              refine norm_ (a' := ?_) ?_ ?_
              rotate_left
              ·
               show Act.put _ (some 14) _ = _
               simp only [Act.put, List.setIfInBounds_toArray, List.set_cons_zero, List.set_cons_succ, i64_w, i32_w]; rfl
              refine one_ (i := 1) (N := some 44) #[true, true, true, false, false, false, false, true, false, false] rfl rfl (one_of HT_.out (by kernel_rfl)) (by decide) (fun K hK => ?_)
              refine goes_ Try.func87 (by kernel_rfl) rfl #[.agg #[.int .i64 ((rd_T27 y1095 x22_1).f0), .int .i64 ((rd_T27 y1095 x22_1).f1)]] (by rfl) rfl rfl zq6 ?_
              with_reducible refine (spec_dyMinus.calls ((rd_T27 y1095 x22_1).f0) ((rd_T27 y1095 x22_1).f1) t1117 t1118 _ A30.out).mono ?_
              rintro e w125 ⟨rfl, hb⟩
              refine ⟨_, rfl, ?_⟩
              replace HO_6 := Aside0.mk (Kd.R_below (zq3 HO_6) hb); replace HO_7 := Aside0.mk (Kd.R_below (zq3 HO_7) hb); replace HO_20 := Aside0.mk (Kd.R_below (zq3 HO_20) hb); replace HO_30 := Aside0.mk (Kd.R_below (zq3 HO_30) hb); replace BK1092 := Aside0.mk (zbb BK1092 hb); replace BK1093 := Aside0.mk (zbb BK1093 hb); replace BK1094 := Aside0.mk (zbb BK1094 hb); replace BK1107 := Aside0.mk (zbb BK1107 hb); replace BK1112 := Aside0.mk (zbb BK1112 hb); replace BK1116 := Aside0.mk (zbb BK1116 hb); replace BK1122 := Aside0.mk (zbb BK1122 hb); replace HB := Aside0.mk (below_step (zb1 HB) hb)
              (try clear hb)
              (try clear hb2)
              (try clear hk)
              (try clear hi)
              refine hK.out _ _ ⟨zc BK1107 0, zc BK1107 1, zc BK1112 0, zc BK1112 1⟩ (fun hHeld => ?_)
              clear hK K
              refine norm_ (a' := ?_) ?_ ?_
              rotate_left
              ·
               show Act.put _ (some 44) _ = _
               simp only [Act.put, List.setIfInBounds_toArray, List.set_cons_zero, List.set_cons_succ, i64_w, i32_w]; rfl
              refine one_ (i := 3) (N := some 46) #[true, true, true, true, false, false, false, true, false, false] rfl rfl (one_of HT_.out (by kernel_rfl)) (by decide) (fun K hK => ?_)
              refine goes_ Try.func99 (by kernel_rfl) rfl #[.agg #[.int .i64 t1117, .int .i64 t1118], .agg #[.int .i64 ((rd_T27 y1108 x32_2).f0), .int .i64 ((rd_T27 y1108 x32_2).f1)], .int .i64 16] (by rfl) rfl rfl zq6 ?_
              with_reducible refine (spec_dyDivide.calls k2 t1117 t1118 ((rd_T27 y1108 x32_2).f0) ((rd_T27 y1108 x32_2).f1) 16 t1119 t1120 t1121 _ A31.out).mono ?_
              rintro e w126 ⟨rfl, hb⟩
              refine ⟨_, rfl, ?_⟩
              replace HO_6 := Aside0.mk (Kd.R_below (zq3 HO_6) hb); replace HO_7 := Aside0.mk (Kd.R_below (zq3 HO_7) hb); replace HO_20 := Aside0.mk (Kd.R_below (zq3 HO_20) hb); replace HO_30 := Aside0.mk (Kd.R_below (zq3 HO_30) hb); replace BK1092 := Aside0.mk (zbb BK1092 hb); replace BK1093 := Aside0.mk (zbb BK1093 hb); replace BK1094 := Aside0.mk (zbb BK1094 hb); replace BK1107 := Aside0.mk (zbb BK1107 hb); replace BK1112 := Aside0.mk (zbb BK1112 hb); replace BK1116 := Aside0.mk (zbb BK1116 hb); replace BK1122 := Aside0.mk (zbb BK1122 hb); replace HB := Aside0.mk (below_step (zb1 HB) hb)
              (try clear hb)
              (try clear hb2)
              (try clear hk)
              (try clear hi)
              refine hK.out _ _ ⟨zc BK1107 0, zc BK1107 1, zc BK1112 0, zc BK1112 1⟩ (fun hHeld => ?_)
              clear hK K
              refine norm_ (a' := ?_) ?_ ?_
              rotate_left
              ·
               show Act.put _ (some 46) _ = _
               simp only [Act.put, List.setIfInBounds_toArray, List.set_cons_zero, List.set_cons_succ, i64_w, i32_w]; rfl
              refine pure_ (i := 4) (N := some 42) (v := ?_) (a' := ?_) #[true, true, true, true, true, false, false, true, false, false] rfl rfl (any_of HT_.out (by kernel_rfl)) (fun _ _ _ h => h) (Or.inl ⟨by rfl, ?_⟩) ?_ ?_
              rotate_left
              ·
               intro w'
               first | (go_simp; with_reducible rfl) | (go_simp; simp only [Instr.field]; go_simp; simp only [asAgg]; go_simp; rfl)
              rotate_left
              ·
               simp only [Act.put, List.setIfInBounds_toArray, List.set_cons_zero, List.set_cons_succ, i64_w, i32_w]
               rfl
              refine pure_ (i := 5) (N := some 47) (v := ?_) (a' := ?_) #[true, true, true, true, true, true, false, true, false, false] rfl rfl (any_of HT_.out (by kernel_rfl)) (fun _ _ _ h => h) (Or.inl ⟨by rfl, ?_⟩) ?_ ?_
              rotate_left
              ·
               intro w'
               first | (go_simp; with_reducible rfl) | (go_simp; simp only [Instr.field]; go_simp; simp only [asAgg]; go_simp; rfl)
              rotate_left
              ·
               simp only [Act.put, List.setIfInBounds_toArray, List.set_cons_zero, List.set_cons_succ, i64_w, i32_w]
               rfl
              refine pure_ (i := 6) (N := some 48) (v := ?_) (a' := ?_) #[true, true, true, true, true, true, true, true, false, false] rfl rfl (any_of HT_.out (by kernel_rfl)) (fun _ _ _ h => h) (Or.inl ⟨by rfl, ?_⟩) ?_ ?_
              rotate_left
              ·
               intro w'
               first | (go_simp; with_reducible rfl) | (go_simp; simp only [Instr.field]; go_simp; simp only [asAgg]; go_simp; rfl)
              rotate_left
              ·
               simp only [Act.put, List.setIfInBounds_toArray, List.set_cons_zero, List.set_cons_succ, i64_w, i32_w]
               rfl
              exact norm_ (by simp only [putAll, Act.put, List.setIfInBounds_toArray, List.set_cons_zero, List.set_cons_succ]) (hCont (gb1122) _ ⟨hHeld, (by (with_reducible repeat (first | apply Kd.R_alloc | apply Kd.R_drewN | apply Kd.R_drew)); exact Kd.R_mono HO_20.out (fun _ hk => ⟨hk.1.2.2.1, ⟨hk.1.1, ⟨hk.1.2.1, ⟨hk.1.2.2.2.1, ⟨hk.1.2.2.2.2.1, ⟨hk.1.2.2.2.2.2, hk.2⟩⟩⟩⟩⟩⟩)), (by (with_reducible repeat (first | apply Kd.R_alloc | apply Kd.R_drewN | apply Kd.R_drew)); exact Kd.R_mono HO_30.out (fun _ hk => ⟨hk.1.2.2.1, ⟨hk.1.1, ⟨hk.1.2.1, ⟨hk.1.2.2.2.1, ⟨hk.1.2.2.2.2.1, ⟨hk.1.2.2.2.2.2, hk.2⟩⟩⟩⟩⟩⟩)), (by (with_reducible repeat (first | apply Kd.R_alloc | apply Kd.R_drewN | apply Kd.R_drew)); exact Kd.R_mono HO_6.out (fun _ hk => ⟨hk.1.2.1, ⟨hk.1.2.2.1, ⟨hk.1.1, ⟨hk.1.2.2.2.1, ⟨hk.1.2.2.2.2.1, ⟨hk.1.2.2.2.2.2, hk.2⟩⟩⟩⟩⟩⟩)), (by (with_reducible repeat (first | apply Kd.R_alloc | apply Kd.R_drewN | apply Kd.R_drew)); exact Kd.R_mono HO_7.out (fun _ hk => ⟨hk.1.2.1, ⟨hk.1.2.2.1, ⟨hk.1.1, ⟨hk.1.2.2.2.1, ⟨hk.1.2.2.2.2.1, ⟨hk.1.2.2.2.2.2, hk.2⟩⟩⟩⟩⟩⟩)), (zq1 BK1092), (zq1 BK1093), (zq1 BK1094), (zq1 BK1107), (zq1 BK1112), (zq1 BK1116), (zq1 BK1122), GW1122.out, GE1122.out, NB1092_1122.out, NB1122_1092.out, NB1093_1122.out, NB1122_1093.out, NB1094_1122.out, NB1122_1094.out, NB1107_1122.out, NB1122_1107.out, NB1112_1122.out, NB1122_1112.out, NB1116_1122.out, NB1122_1116.out, (zb1 HB)⟩)
            rintro gb1122 w127 ⟨hS_, h0_, h1_, h2_, h3_, h4_, h5_, h6_, h7_, h8_, h9_, h10_, h11_, h12_, h13_, h14_, h15_, h16_, h17_, h18_, h19_, h20_, h21_, h22_, h23_, h24_, h25_⟩
            have BK1122 : Aside0 (w127.heap[gb1122]? = some (.cells #[.int .i64 0, .int .i64 0] 27 (0, 0))) := ⟨h10_⟩
            have GW1122 : Aside0 (w.heap.size ≤ gb1122) := ⟨h11_⟩
            have GE1122 : Aside0 (w.heap.size ≤ gb1122) := ⟨h12_⟩
            have NB1092_1122 : Aside0 (gb1092 ≠ gb1122) := ⟨h13_⟩
            have NB1122_1092 : Aside0 (gb1122 ≠ gb1092) := ⟨h14_⟩
            have NB1093_1122 : Aside0 (gb1093 ≠ gb1122) := ⟨h15_⟩
            have NB1122_1093 : Aside0 (gb1122 ≠ gb1093) := ⟨h16_⟩
            have NB1094_1122 : Aside0 (gb1094 ≠ gb1122) := ⟨h17_⟩
            have NB1122_1094 : Aside0 (gb1122 ≠ gb1094) := ⟨h18_⟩
            have NB1107_1122 : Aside0 (gb1107 ≠ gb1122) := ⟨h19_⟩
            have NB1122_1107 : Aside0 (gb1122 ≠ gb1107) := ⟨h20_⟩
            have NB1112_1122 : Aside0 (gb1112 ≠ gb1122) := ⟨h21_⟩
            have NB1122_1112 : Aside0 (gb1122 ≠ gb1112) := ⟨h22_⟩
            have NB1116_1122 : Aside0 (gb1116 ≠ gb1122) := ⟨h23_⟩
            have NB1122_1116 : Aside0 (gb1122 ≠ gb1116) := ⟨h24_⟩
            replace HO_20 : Aside0 (Kd.R k27 27 w127 w.heap.size (fun k_ => some k_ ≠ (.slice (some ad1111) y1108.length co25 : Value).ownBlock ∧ some k_ ≠ (u6 : Value).ownBlock ∧ some k_ ≠ (u7 : Value).ownBlock ∧ k_ ≠ gb1107 ∧ k_ ≠ gb1112 ∧ k_ ≠ gb1116 ∧ k_ ≠ gb1122) (.slice (some ad1106) y1095.length co11) y1095) := ⟨h0_⟩; replace HO_30 : Aside0 (Kd.R k27 27 w127 w.heap.size (fun k_ => some k_ ≠ (.slice (some ad1106) y1095.length co11 : Value).ownBlock ∧ some k_ ≠ (u6 : Value).ownBlock ∧ some k_ ≠ (u7 : Value).ownBlock ∧ k_ ≠ gb1107 ∧ k_ ≠ gb1112 ∧ k_ ≠ gb1116 ∧ k_ ≠ gb1122) (.slice (some ad1111) y1108.length co25) y1108) := ⟨h1_⟩; replace HO_6 : Aside0 (Kd.R k27 27 w127 w.heap.size (fun k_ => some k_ ≠ (.slice (some ad1106) y1095.length co11 : Value).ownBlock ∧ some k_ ≠ (.slice (some ad1111) y1108.length co25 : Value).ownBlock ∧ some k_ ≠ (u7 : Value).ownBlock ∧ k_ ≠ gb1107 ∧ k_ ≠ gb1112 ∧ k_ ≠ gb1116 ∧ k_ ≠ gb1122) u6 x6_2) := ⟨h2_⟩; replace HO_7 : Aside0 (Kd.R k27 27 w127 w.heap.size (fun k_ => some k_ ≠ (.slice (some ad1106) y1095.length co11 : Value).ownBlock ∧ some k_ ≠ (.slice (some ad1111) y1108.length co25 : Value).ownBlock ∧ some k_ ≠ (u6 : Value).ownBlock ∧ k_ ≠ gb1107 ∧ k_ ≠ gb1112 ∧ k_ ≠ gb1116 ∧ k_ ≠ gb1122) u7 x7_2) := ⟨h3_⟩; replace BK1092 : Aside0 (w127.heap[gb1092]? = some (.cells #[.int .i64 a0_0, .int .i64 a0_1, .int .i64 a0_2, .int .i64 a0_3] 29 (0, 0))) := ⟨h4_⟩; replace BK1093 : Aside0 (w127.heap[gb1093]? = some (.cells #[.int .i64 a1_0, .int .i64 a1_1, .int .i64 a1_2, .int .i64 a1_3] 29 (0, 0))) := ⟨h5_⟩; replace BK1094 : Aside0 (w127.heap[gb1094]? = some (.cells #[.int .i64 x1095000_2, .int .i64 x1095001_2, .int .i64 x1095002_2, .int .i64 x1095003_2] 29 (0, 0))) := ⟨h6_⟩; replace BK1107 : Aside0 (w127.heap[gb1107]? = some (.cells #[.int .i64 ((rd_T27 y1095 x22_1).f0), .int .i64 ((rd_T27 y1095 x22_1).f1)] 27 (0, 0))) := ⟨h7_⟩; replace BK1112 : Aside0 (w127.heap[gb1112]? = some (.cells #[.int .i64 ((rd_T27 y1108 x32_2).f0), .int .i64 ((rd_T27 y1108 x32_2).f1)] 27 (0, 0))) := ⟨h8_⟩; replace BK1116 : Aside0 (w127.heap[gb1116]? = some (.cells #[.int .i64 t1113, .int .i64 t1114] 27 (0, 0))) := ⟨h9_⟩; replace HB : Aside0 (Below w.heap.size w w127) := ⟨h25_⟩
            clear h0_ h10_ h11_ h12_ h13_ h14_ h15_ h16_ h17_ h18_ h19_ h1_ h20_ h21_ h22_ h23_ h24_ h25_ h2_ h3_ h4_ h5_ h6_ h7_ h8_ h9_
            have hHeld : w127.cell? ⟨gb1107, 0, none⟩ = some (.int .i64 ((rd_T27 y1095 x22_1).f0)) ∧ w127.cell? ⟨gb1107, 1, none⟩ = some (.int .i64 ((rd_T27 y1095 x22_1).f1)) ∧ w127.cell? ⟨gb1112, 0, none⟩ = some (.int .i64 ((rd_T27 y1108 x32_2).f0)) ∧ w127.cell? ⟨gb1112, 1, none⟩ = some (.int .i64 ((rd_T27 y1108 x32_2).f1)) := hS_
            refine norm_ (a' := ?_) ?_ ?_
            rotate_left
            ·
             simp only [putAll, Act.put, List.setIfInBounds_toArray, List.set_cons_zero, List.set_cons_succ]
             rfl
            refine one_ (i := 8) (N := none) #[true, true, true, true, true, true, true, true, true, false] rfl rfl (one_of HT_.out (by kernel_rfl)) (by decide) (fun K hK => ?_)
            have hs128 : w127.cell? ⟨gb1122, 0, none⟩ = some (.int .i64 0) := zc BK1122 0
            have hfs128 := blk_frozen BK1122.out 0
            have hns128_0 := NB1092_1122.out
            have hns128_1 := NB1093_1122.out
            have hns128_2 := NB1094_1122.out
            have hns128_3 := NB1107_1122.out
            have hns128_4 := NB1112_1122.out
            have hns128_5 := NB1116_1122.out
            have hms128_0 := NB1122_1092.out
            have hms128_1 := NB1122_1093.out
            have hms128_2 := NB1122_1094.out
            have hms128_3 := NB1122_1107.out
            have hms128_4 := NB1122_1112.out
            have hms128_5 := NB1122_1116.out
            have hs129 : w127.cell? ⟨gb1122, 1, none⟩ = some (.int .i64 0) := zc BK1122 1
            have hfs129 := blk_frozen BK1122.out 1
            have hns129_0 := NB1092_1122.out
            have hns129_1 := NB1093_1122.out
            have hns129_2 := NB1094_1122.out
            have hns129_3 := NB1107_1122.out
            have hns129_4 := NB1112_1122.out
            have hns129_5 := NB1116_1122.out
            have hms129_0 := NB1122_1092.out
            have hms129_1 := NB1122_1093.out
            have hms129_2 := NB1122_1094.out
            have hms129_3 := NB1122_1107.out
            have hms129_4 := NB1122_1112.out
            have hms129_5 := NB1122_1116.out
            refine skip_ (w1 := ?_) (by rfl) rfl ?_ ?_
            rotate_left
            ·
             go_simp
             rfl
            refine hK.out _ _ ⟨((cell_far (p := ⟨gb1122, _, none⟩) NB1107_1122.out _).trans (((cell_far (p := ⟨gb1122, _, none⟩) NB1107_1122.out _).trans (hHeld.1)))), ((cell_far (p := ⟨gb1122, _, none⟩) NB1107_1122.out _).trans (((cell_far (p := ⟨gb1122, _, none⟩) NB1107_1122.out _).trans (hHeld.2.1)))), ((cell_far (p := ⟨gb1122, _, none⟩) NB1112_1122.out _).trans (((cell_far (p := ⟨gb1122, _, none⟩) NB1112_1122.out _).trans (hHeld.2.2.1)))), ((cell_far (p := ⟨gb1122, _, none⟩) NB1112_1122.out _).trans (((cell_far (p := ⟨gb1122, _, none⟩) NB1112_1122.out _).trans (hHeld.2.2.2))))⟩ (fun hHeld => ?_)
            clear hK K
            refine pure_ (i := 9) (N := some 15) (v := ?_) (a' := ?_) #[true, true, true, true, true, true, true, true, true, true] rfl rfl (any_of HT_.out (by kernel_rfl)) (fun _ _ _ h => h) (Or.inl ⟨by rfl, ?_⟩) ?_ ?_
            rotate_left
            ·
             intro w'
             first | (go_simp; with_reducible rfl) | (go_simp; simp only [Instr.field]; go_simp; simp only [asAgg]; go_simp; rfl)
            rotate_left
            ·
             simp only [Act.put, List.setIfInBounds_toArray, List.set_cons_zero, List.set_cons_succ, i64_w, i32_w]
             rfl
            refine done_ (done_of HT_.out (by kernel_rfl)) ?_
            have hnb130 := NB1094_1092.out
            have hnc130 := NB1092_1094.out
            have hnb131 := NB1094_1093.out
            have hnc131 := NB1093_1094.out
            have hnb132 := NB1094_1122.out
            have hnc132 := NB1122_1094.out
            have hcz133_0 : w127.cell? ⟨gb1094, 0, none⟩ = some (.int .i64 x1095000_2) := zc BK1094 0
            have hcz133_1 : w127.cell? ⟨gb1094, 1, none⟩ = some (.int .i64 x1095001_2) := zc BK1094 1
            have hcz133_2 : w127.cell? ⟨gb1094, 2, none⟩ = some (.int .i64 x1095002_2) := zc BK1094 2
            have hcz133_3 : w127.cell? ⟨gb1094, 3, none⟩ = some (.int .i64 x1095003_2) := zc BK1094 3
            have hfz133_0 := blk_frozen BK1094.out 0
            have hfz133_1 := blk_frozen BK1094.out 1
            have hfz133_2 := blk_frozen BK1094.out 2
            have hfz133_3 := blk_frozen BK1094.out 3
            try go_wp2
            refine bodyPost_ret (results_ct rfl _ _ gb1094 29 #[.int .i64 0, .int .i64 0, .int .i64 0, .int .i64 0] (0, 0) _ rfl (by (with_reducible repeat (first | refine blk_drewN ?_ _ | refine blk_drew ?_ | refine blk_alloc ?_ _)); refine blk_put (cs := #[.int .i64 0, .int .i64 0, .int .i64 0, .int .i64 x1095003_2]) ?_ 3 _ rfl; (with_reducible repeat (first | refine blk_drewN ?_ _ | refine blk_drew ?_ | refine blk_alloc ?_ _)); refine blk_put (cs := #[.int .i64 0, .int .i64 0, .int .i64 x1095002_2, .int .i64 x1095003_2]) ?_ 2 _ rfl; (with_reducible repeat (first | refine blk_drewN ?_ _ | refine blk_drew ?_ | refine blk_alloc ?_ _)); refine blk_put (cs := #[.int .i64 0, .int .i64 x1095001_2, .int .i64 x1095002_2, .int .i64 x1095003_2]) ?_ 1 _ rfl; (with_reducible repeat (first | refine blk_drewN ?_ _ | refine blk_drew ?_ | refine blk_alloc ?_ _)); refine blk_put (cs := #[.int .i64 x1095000_2, .int .i64 x1095001_2, .int .i64 x1095002_2, .int .i64 x1095003_2]) ?_ 0 _ rfl; (with_reducible repeat (first | refine blk_drewN ?_ _ | refine blk_drew ?_ | refine blk_alloc ?_ _)); refine blk_far ?_ NB1094_1122.out _; (with_reducible repeat (first | refine blk_drewN ?_ _ | refine blk_drew ?_ | refine blk_alloc ?_ _)); refine blk_far ?_ NB1094_1122.out _; (with_reducible repeat (first | refine blk_drewN ?_ _ | refine blk_drew ?_ | refine blk_alloc ?_ _)); exact BK1094.out) Try.underlying29 rfl (by kernel_rfl)) rfl ?_
            exact ⟨by first | rfl | (simp [errW_none, errW_some] <;> rfl) | (simp [*, errW_none, errW_some] <;> rfl), (zb1 HB)⟩
          ·
           rw [if_neg c28] at H
           exact absurd H (by simp)
         ·
          rw [if_neg c27] at H
          exact absurd H (by simp)
        ·
         rw [if_neg c26] at H
         have c26b0 : decide (x32_2 < (y1108.length : Int)) = false := decide_eq_false c26
         clear c26
         have H' := Aside0.mk H
         clear H
         go_wp2
         go_roundg k2
         case measure => have := HK1.out; have := HK2.out; omega
         case rel => exact ⟨(x6_2), (x7_2), (wrap64 (x22_1 + 1)), (x1095000_2), (x1095001_2), (x1095002_2), (x1095003_2), (by first | rfl | (simp; done) | (simp [*]; done)), H', ⟨by have := HK1.out; have := HK2.out; omega⟩, ⟨by (with_reducible repeat (first | apply Kd.R_alloc | apply Kd.R_drewN | apply Kd.R_drew)); exact Kd.R_mono HO_6.out (fun _ hk => ⟨hk.1, hk.2.1⟩)⟩, ⟨by (with_reducible repeat (first | apply Kd.R_alloc | apply Kd.R_drewN | apply Kd.R_drew)); exact Kd.R_mono HO_7.out (fun _ hk => ⟨hk.1, hk.2.1⟩)⟩, ⟨by (with_reducible repeat (first | apply Kd.R_alloc | apply Kd.R_drewN | apply Kd.R_drew)); exact Kd.R_mono HO_20.out (fun _ hk => ⟨hk.1, hk.2.1⟩)⟩, ⟨by (with_reducible repeat (first | refine blk_drewN ?_ _ | refine blk_drew ?_ | refine blk_alloc ?_ _)); exact BK1092.out⟩, ⟨by (with_reducible repeat (first | refine blk_drewN ?_ _ | refine blk_drew ?_ | refine blk_alloc ?_ _)); exact BK1093.out⟩, ⟨by (with_reducible repeat (first | refine blk_drewN ?_ _ | refine blk_drew ?_ | refine blk_alloc ?_ _)); exact BK1094.out⟩, ⟨(zb1 HB)⟩⟩
     ·
      rw [if_neg c14] at H
      exact absurd H (by simp)
    ·
     rw [if_neg c13] at H
     exact absurd H (by simp)
   ·
    rw [if_neg c12] at H
    have c12b0 : decide (x22_1 < (y1095.length : Int)) = false := decide_eq_false c12
    clear c12
    replace H := Option.bind_eq_some_iff.mp H
    obtain ⟨⟨t1098, t1099, t1100, t1101⟩, A1340, H⟩ := H
    replace H : ((spec_ivEnds.f k1 x7_1).bind fun bt1102 => (some (t1098, t1099, bt1102.2.2.1, bt1102.2.2.2, true))) = some (r1, r2, r3, r4, r5) := H
    have A134 := Aside0.mk A1340
    clear A1340
    replace H := Option.bind_eq_some_iff.mp H
    obtain ⟨⟨t1102, t1103, t1104, t1105⟩, A1350, H⟩ := H
    replace H : (some (t1098, t1099, t1104, t1105, true)) = some (r1, r2, r3, r4, r5) := H
    have A135 := Aside0.mk A1350
    clear A1350
    simp only [Option.some.injEq, Prod.mk.injEq] at H
    obtain ⟨rfl, rfl, rfl, rfl, rfl⟩ := H
    have hfld0 : ∀ w : World, (Instr.field 29 (.agg #[.int .i64 t1098, .int .i64 t1099, .int .i64 t1100, .int .i64 t1101]) 0).run Try.prog w = .ok (.agg #[.int .i64 t1098, .int .i64 t1099]) w := fun w => by simp only [Instr.field]; go_simp; simp only [asAgg]; go_simp
    have hfld1 : ∀ w : World, (Instr.field 29 (.agg #[.int .i64 t1102, .int .i64 t1103, .int .i64 t1104, .int .i64 t1105]) 1).run Try.prog w = .ok (.agg #[.int .i64 t1104, .int .i64 t1105]) w := fun w => by simp only [Instr.field]; go_simp; simp only [asAgg]; go_simp
    obtain ⟨Ao136, co136, eo136⟩ := Kd.R_slice HO_6.out
    subst eo136
    go_wp2_with (first | ((with_reducible refine gate_callee (f := 82) rfl ?_); refine goesL_ (some 68) rfl rfl Try.func82 (by kernel_rfl) rfl #[.slice Ao136 x6_1.length co136] rfl zq6 ?_; (with_reducible refine (spec_ivEnds.calls k1 _ _ x6_1 t1098 t1099 t1100 t1101 _ ?side1 ?side2 A134.out).mono ?_); (case side1 => repeat (first | exact (Kd.R_reads' HO_6.out).2.2 | (with_reducible refine Kd.C_alloc ?_ _) | (with_reducible refine Kd.C_drewN ?_ _) | (with_reducible refine Kd.C_drew ?_))); (case side2 => exact (Kd.R_reads' HO_6.out).2.1); rintro e w137 ⟨rfl, hb⟩; refine ⟨_, rfl, ?_⟩; replace HO_6 := Aside0.mk (Kd.R_below (zq3 HO_6) hb); replace HO_7 := Aside0.mk (Kd.R_below (zq3 HO_7) hb); replace HO_20 := Aside0.mk (Kd.R_below (zq3 HO_20) hb); replace BK1092 := Aside0.mk (zbb BK1092 hb); replace BK1093 := Aside0.mk (zbb BK1093 hb); replace BK1094 := Aside0.mk (zbb BK1094 hb); replace HB := Aside0.mk (below_step (zb1 HB) hb); (try clear hb); (try clear hb2); (try clear hk); (try clear hi); obtain ⟨Ao138, co138, eo138⟩ := Kd.R_slice HO_7.out; subst eo138) | ((with_reducible refine gate_callee (f := 82) rfl ?_); refine goesL_ (some 71) rfl rfl Try.func82 (by kernel_rfl) rfl #[.slice Ao138 x7_1.length co138] rfl zq6 ?_; (with_reducible refine (spec_ivEnds.calls k1 _ _ x7_1 t1102 t1103 t1104 t1105 _ ?side1 ?side2 A135.out).mono ?_); (case side1 => repeat (first | exact (Kd.R_reads' HO_7.out).2.2 | (with_reducible refine Kd.C_alloc ?_ _) | (with_reducible refine Kd.C_drewN ?_ _) | (with_reducible refine Kd.C_drew ?_))); (case side2 => exact (Kd.R_reads' HO_7.out).2.1); rintro e w139 ⟨rfl, hb⟩; refine ⟨_, rfl, ?_⟩; replace HO_6 := Aside0.mk (Kd.R_below (zq3 HO_6) hb); replace HO_7 := Aside0.mk (Kd.R_below (zq3 HO_7) hb); replace HO_20 := Aside0.mk (Kd.R_below (zq3 HO_20) hb); replace BK1092 := Aside0.mk (zbb BK1092 hb); replace BK1093 := Aside0.mk (zbb BK1093 hb); replace BK1094 := Aside0.mk (zbb BK1094 hb); replace HB := Aside0.mk (below_step (zb1 HB) hb); (try clear hb); (try clear hb2); (try clear hk); (try clear hi); have hnb140 := NB1094_1092.out; have hnc140 := NB1092_1094.out; have hnb141 := NB1094_1093.out; have hnc141 := NB1093_1094.out; have hcz142_0 : w139.cell? ⟨gb1094, 0, none⟩ = some (.int .i64 x1095000_1) := zc BK1094 0; have hcz142_1 : w139.cell? ⟨gb1094, 1, none⟩ = some (.int .i64 x1095001_1) := zc BK1094 1; have hcz142_2 : w139.cell? ⟨gb1094, 2, none⟩ = some (.int .i64 x1095002_1) := zc BK1094 2; have hcz142_3 : w139.cell? ⟨gb1094, 3, none⟩ = some (.int .i64 x1095003_1) := zc BK1094 3; have hfz142_0 := blk_frozen BK1094.out 0; have hfz142_1 := blk_frozen BK1094.out 1; have hfz142_2 := blk_frozen BK1094.out 2; have hfz142_3 := blk_frozen BK1094.out 3))
    refine bodyPost_ret (results_ct rfl _ _ gb1094 29 #[.int .i64 t1098, .int .i64 t1099, .int .i64 t1104, .int .i64 t1105] (0, 0) _ rfl (by (with_reducible repeat (first | refine blk_drewN ?_ _ | refine blk_drew ?_ | refine blk_alloc ?_ _)); refine blk_put (cs := #[.int .i64 t1098, .int .i64 t1099, .int .i64 t1104, .int .i64 x1095003_1]) ?_ 3 _ rfl; (with_reducible repeat (first | refine blk_drewN ?_ _ | refine blk_drew ?_ | refine blk_alloc ?_ _)); refine blk_put (cs := #[.int .i64 t1098, .int .i64 t1099, .int .i64 x1095002_1, .int .i64 x1095003_1]) ?_ 2 _ rfl; (with_reducible repeat (first | refine blk_drewN ?_ _ | refine blk_drew ?_ | refine blk_alloc ?_ _)); refine blk_put (cs := #[.int .i64 t1098, .int .i64 x1095001_1, .int .i64 x1095002_1, .int .i64 x1095003_1]) ?_ 1 _ rfl; (with_reducible repeat (first | refine blk_drewN ?_ _ | refine blk_drew ?_ | refine blk_alloc ?_ _)); refine blk_put (cs := #[.int .i64 x1095000_1, .int .i64 x1095001_1, .int .i64 x1095002_1, .int .i64 x1095003_1]) ?_ 0 _ rfl; (with_reducible repeat (first | refine blk_drewN ?_ _ | refine blk_drew ?_ | refine blk_alloc ?_ _)); exact BK1094.out) Try.underlying29 rfl (by kernel_rfl)) rfl ?_
    exact ⟨by first | rfl | (simp [errW_none, errW_some] <;> rfl) | (simp [*, errW_none, errW_some] <;> rfl), (zb1 HB)⟩
end Go.Proofs.Ytinpcalgdiigiaa.PD
