-- By wip/mk/drv.py
import Derived.Test.YtfnmppeoleicbaaQDerilyPDx0
import Derived.Test.YtfnmppeoleicbaaQDerilyPDx1
import Derived.Test.YtfnmppeoleicbaaQDerilyPDx3
namespace Go.Proofs.Ytfnmppeoleicbaa.PD
open Go.RowKit Go.Proofs.YtfnmppeoleicbaaW.PrintWords Go.Proofs.YtfnmppeoleicbaaW.PrintLast Go.Proofs.YtfnmppeoleicbaaW.PrintMore
attribute [local go_sem] max2_int min2_int max_two min_two max_three min_three max_four min_four
set_option linter.unusedVariables false
set_option linter.unusedSimpArgs false
/-! ### spec_poDerive: function 84 -/
set_option maxHeartbeats 8000000 in
set_option maxRecDepth 100000 in
theorem spec_poDerive.calls (k : Nat) (A0 : Option Addr) (c0 : Nat) (l0 : List (S55)) (a1 : Int) (r : List (S55)) (w : World) (hr0 : Kd.C k55 w A0 l0.length l0) (hc0 : l0.length ≤ c0) (h : spec_poDerive.f k l0 a1 = some r) :
  Calls Try.prog 84 #[.slice A0 l0.length c0, .int .i64 a1] w fun e w' => ∃ v0_ : Value, e = .returned (v0_) ∧ Kd.R k55 55 w' w.heap.size (fun _ => True) v0_ r ∧ Below w.heap.size w w' := by
 have hu55 := Try.underlying55
 have HR0 := Aside0.mk hr0
 have HC0 := Aside0.mk hc0
 clear hr0 hc0
 have HB := Aside0.mk (Below.refl w.heap.size w)
 have H : (spec_poDerive.l0 k a1 ([] : List (S55)) l0 (l0.length : Int) 0) = some r := h
 clear h
 have H' := Aside0.mk H
 clear H
 go_enter Try.func84, Try.ntmps84
 go_wp2
 go_loopg [5, 12] k (fun kq v5 v12 w' => ∃ (x5_1 : List (S55)) (x12_1 : Int), v12 = .int .i64 x12_1 ∧ Aside0 (spec_poDerive.l0 kq a1 x5_1 l0 (l0.length : Int) x12_1 = some r) ∧ Aside0 (kq ≤ k) ∧ Aside0 (Kd.R k55 55 w' w.heap.size (fun _ => True) v5 x5_1) ∧ Aside0 (Below w.heap.size w w'))
 case atStart => exact ⟨(([] : List (S55))), (0), (by first | rfl | (simp; done) | (simp [*]; done)), H', ⟨Nat.le_refl _⟩, ⟨by first | exact Kd.R_nil _ _ _ _ _ | exact Kd.N_nil _ _ _ _ _ | exact Kd.V_nil _ _ _ _ _ | exact Kd.Q_nil _ _ _ _ _ | exact Kd.S_nil _ _ _ _ _⟩, ⟨(zb0 HB)⟩⟩
 case round =>
  clear H'
  try clear p2
  obtain ⟨x5_1, x12_1, rfl, HA, HK1, HO_5, HB⟩ := hrel
  cases gk with
  | zero => exact absurd HA.out (by simp [spec_poDerive.l0])
  | succ k1 =>
   have H := HA.out
   clear HA
   simp only [spec_poDerive.l0] at H
   by_cases c3 : x12_1 < (l0.length : Int)
   ·
    rw [if_pos c3] at H
    have c3b0 : decide (x12_1 < (l0.length : Int)) = true := decide_eq_true c3
    clear c3
    by_cases c4 : 0 ≤ x12_1
    ·
     rw [if_pos c4] at H
     have c4b0 : decide (0 ≤ x12_1) = true := decide_eq_true c4
     clear c4
     by_cases c5 : x12_1 < (l0.length : Int)
     ·
      rw [if_pos c5] at H
      have c5b0 : decide (x12_1 < (l0.length : Int)) = true := decide_eq_true c5
      clear c5
      replace H := Option.bind_eq_some_iff.mp H
      obtain ⟨t215, A60, H⟩ := H
      replace H : (if t215 > 0 then ((spec_poWith.f ((rd_T55 l0 x12_1).f0) ((rd_T55 l0 x12_1).f1) ((rd_T55 l0 x12_1).f2) ((rd_T55 l0 x12_1).f3) a1 (wrap64 (t215 - 1))).bind fun bt216 => (if x5_1.length < 4398046511104 then (spec_poDerive.l0 k1 a1 (x5_1 ++ [(⟨wrap64 (bt216.1 * t215), bt216.2.1, bt216.2.2.1, bt216.2.2.2⟩ : S55)]) l0 (l0.length : Int) (wrap64 (x12_1 + 1))) else (none))) else (spec_poDerive.l0 k1 a1 x5_1 l0 (l0.length : Int) (wrap64 (x12_1 + 1)))) = some r := H
      have A6 := Aside0.mk A60
      clear A60
      by_cases c7 : t215 > 0
      ·
       rw [if_pos c7] at H
       have c7b0 : decide (0 < t215) = true := decide_eq_true c7
       clear c7
       replace H := Option.bind_eq_some_iff.mp H
       obtain ⟨⟨t216, t217, t218, t219⟩, A80, H⟩ := H
       replace H : (if x5_1.length < 4398046511104 then (spec_poDerive.l0 k1 a1 (x5_1 ++ [(⟨wrap64 (t216 * t215), t217, t218, t219⟩ : S55)]) l0 (l0.length : Int) (wrap64 (x12_1 + 1))) else (none)) = some r := H
       have A8 := Aside0.mk A80
       clear A80
       by_cases c9 : x5_1.length < 4398046511104
       ·
        rw [if_pos c9] at H
        have LMc9 := Aside0.mk c9
        clear c9
        obtain ⟨y221, hy221⟩ : ∃ y_ : List (S55), y_ = (x5_1 ++ [(⟨wrap64 (t216 * t215), t217, t218, t219⟩ : S55)]) := ⟨_, rfl⟩
        replace H : (spec_poDerive.l0 k1 a1 y221 l0 (l0.length : Int) (wrap64 (x12_1 + 1))) = some r := by first | (rw [hy221]; with_reducible exact H) | (have H2_ := (Option.bind_some _ _).symm.trans H; rw [hy221]; with_reducible exact H2_) | (have H2_ := (Option.bind_some _ _).symm.trans H; with_reducible exact H2_) | with_reducible exact H | (rw [hy221]; exact H) | exact H
        have Ny221 := Aside0.mk hy221
        clear hy221
        have H' := Aside0.mk H
        clear H
        have p213 : 0 ≤ (x12_1 : Int) := of_decide_eq_true (by first | (with_reducible assumption) | assumption)
        have q213 : x12_1 < (l0.length : Int) := of_decide_eq_true (by first | (with_reducible assumption) | assumption)
        obtain ⟨ad213, e213, hx213_0, hx213_1, hx213_2, hx213_3⟩ := at_T55 HR0.out x12_1 p213 q213
        cases e213
        replace hx213_0 := (HB.out.cell (World.block_lt_of_cell? w _ hx213_0)).trans hx213_0
        replace hx213_1 := (HB.out.cell (World.block_lt_of_cell? w _ hx213_1)).trans hx213_1
        replace hx213_2 := (HB.out.cell (World.block_lt_of_cell? w _ hx213_2)).trans hx213_2
        replace hx213_3 := (HB.out.cell (World.block_lt_of_cell? w _ hx213_3)).trans hx213_3
        replace p213 := eq_true p213
        replace q213 := eq_true q213
        go_wp2_with (first | ((with_reducible refine gate_dst (N := 7) rfl ?_); refine zbe (N := 7) (cs := #[.int .i64 0, .int .i64 0, .int .i64 0, .int .i64 0]) (t := 55) ?_; intro gb214 hg w10 hbox hb; have BK214 := Aside0.mk (hbox); have GW214 := Aside0.mk (zge (zb0 HB) hg); have GE214 := GW214; replace HO_5 := Aside0.mk (Kd.R_below (Kd.R_elderB (zq3 HO_5) gb214 (Nat.le_of_eq hg.symm)) hb); replace HB := Aside0.mk (below_step (zb0 HB) hb); clear hb hbox hg; have hcz11_0 : w10.cell? ⟨gb214, 0, none⟩ = some (.int .i64 0) := zc BK214 0; have hcz11_1 : w10.cell? ⟨gb214, 1, none⟩ = some (.int .i64 0) := zc BK214 1; have hcz11_2 : w10.cell? ⟨gb214, 2, none⟩ = some (.int .i64 0) := zc BK214 2; have hcz11_3 : w10.cell? ⟨gb214, 3, none⟩ = some (.int .i64 0) := zc BK214 3; have hfz11_0 := blk_frozen BK214.out 0; have hfz11_1 := blk_frozen BK214.out 1; have hfz11_2 := blk_frozen BK214.out 2; have hfz11_3 := blk_frozen BK214.out 3) | ((with_reducible refine gate_callee (f := 81) rfl ?_); refine goesL_ (some 18) rfl rfl Try.func81 (by kernel_rfl) rfl #[.agg #[.int .i64 ((rd_T55 l0 x12_1).f0), .int .i64 ((rd_T55 l0 x12_1).f1), .int .i64 ((rd_T55 l0 x12_1).f2), .int .i64 ((rd_T55 l0 x12_1).f3)], .int .i64 a1] rfl zq6 ?_; (with_reducible refine (spec_poPower.calls ((rd_T55 l0 x12_1).f0) ((rd_T55 l0 x12_1).f1) ((rd_T55 l0 x12_1).f2) ((rd_T55 l0 x12_1).f3) a1 t215 _ A6.out).mono ?_); rintro e w12 ⟨rfl, hb⟩; refine ⟨_, rfl, ?_⟩; replace HO_5 := Aside0.mk (Kd.R_below (by (with_reducible repeat (first | apply Kd.R_alloc | apply Kd.R_drewN | apply Kd.R_drew)); exact (Kd.R_mono (Kd.R_far (p := ⟨gb214, 3, none⟩) (Kd.R_far (p := ⟨gb214, 2, none⟩) (Kd.R_far (p := ⟨gb214, 1, none⟩) (Kd.R_far (p := ⟨gb214, 0, none⟩) (Kd.R_mono HO_5.out (fun k_ hk => (⟨hk, hk.2⟩ : _ ∧ k_ ≠ gb214))) (fun _ hk => hk.2) (.int .i64 ((rd_T55 l0 x12_1).f0))) (fun _ hk => hk.2) (.int .i64 ((rd_T55 l0 x12_1).f1))) (fun _ hk => hk.2) (.int .i64 ((rd_T55 l0 x12_1).f2))) (fun _ hk => hk.2) (.int .i64 ((rd_T55 l0 x12_1).f3))) (fun _ h_ => h_.1))) hb); replace BK214 := Aside0.mk (blk_below (g := gb214) (o := .cells #[.int .i64 ((rd_T55 l0 x12_1).f0), .int .i64 ((rd_T55 l0 x12_1).f1), .int .i64 ((rd_T55 l0 x12_1).f2), .int .i64 ((rd_T55 l0 x12_1).f3)] 55 (0, 0)) (by (with_reducible repeat (first | refine blk_drewN ?_ _ | refine blk_drew ?_ | refine blk_alloc ?_ _)); refine blk_put (cs := #[.int .i64 ((rd_T55 l0 x12_1).f0), .int .i64 ((rd_T55 l0 x12_1).f1), .int .i64 ((rd_T55 l0 x12_1).f2), .int .i64 0]) ?_ 3 _ rfl; (with_reducible repeat (first | refine blk_drewN ?_ _ | refine blk_drew ?_ | refine blk_alloc ?_ _)); refine blk_put (cs := #[.int .i64 ((rd_T55 l0 x12_1).f0), .int .i64 ((rd_T55 l0 x12_1).f1), .int .i64 0, .int .i64 0]) ?_ 2 _ rfl; (with_reducible repeat (first | refine blk_drewN ?_ _ | refine blk_drew ?_ | refine blk_alloc ?_ _)); refine blk_put (cs := #[.int .i64 ((rd_T55 l0 x12_1).f0), .int .i64 0, .int .i64 0, .int .i64 0]) ?_ 1 _ rfl; (with_reducible repeat (first | refine blk_drewN ?_ _ | refine blk_drew ?_ | refine blk_alloc ?_ _)); refine blk_put (cs := #[.int .i64 0, .int .i64 0, .int .i64 0, .int .i64 0]) ?_ 0 _ rfl; (with_reducible repeat (first | refine blk_drewN ?_ _ | refine blk_drew ?_ | refine blk_alloc ?_ _)); exact BK214.out) hb); replace HB := Aside0.mk (below_step (zb1 HB) hb); (try clear hb); (try clear hb2); (try clear hk); (try clear hi); have hcz13_0 : w12.cell? ⟨gb214, 0, none⟩ = some (.int .i64 ((rd_T55 l0 x12_1).f0)) := zc BK214 0; have hcz13_1 : w12.cell? ⟨gb214, 1, none⟩ = some (.int .i64 ((rd_T55 l0 x12_1).f1)) := zc BK214 1; have hcz13_2 : w12.cell? ⟨gb214, 2, none⟩ = some (.int .i64 ((rd_T55 l0 x12_1).f2)) := zc BK214 2; have hcz13_3 : w12.cell? ⟨gb214, 3, none⟩ = some (.int .i64 ((rd_T55 l0 x12_1).f3)) := zc BK214 3; have hfz13_0 := blk_frozen BK214.out 0; have hfz13_1 := blk_frozen BK214.out 1; have hfz13_2 := blk_frozen BK214.out 2; have hfz13_3 := blk_frozen BK214.out 3) | ((with_reducible refine gate_callee (f := 82) rfl ?_); refine goesL_ (some 25) rfl rfl Try.func82 (by kernel_rfl) rfl #[.agg #[.int .i64 ((rd_T55 l0 x12_1).f0), .int .i64 ((rd_T55 l0 x12_1).f1), .int .i64 ((rd_T55 l0 x12_1).f2), .int .i64 ((rd_T55 l0 x12_1).f3)], .int .i64 a1, .int .i64 (wrap64 (t215 - 1))] rfl zq6 ?_; (with_reducible refine (spec_poWith.calls ((rd_T55 l0 x12_1).f0) ((rd_T55 l0 x12_1).f1) ((rd_T55 l0 x12_1).f2) ((rd_T55 l0 x12_1).f3) a1 (wrap64 (t215 - 1)) t216 t217 t218 t219 _ A8.out).mono ?_); rintro e w14 ⟨rfl, hb⟩; refine ⟨_, rfl, ?_⟩; replace HO_5 := Aside0.mk (Kd.R_below (zq3 HO_5) hb); replace BK214 := Aside0.mk (zbb BK214 hb); replace HB := Aside0.mk (below_step (zb1 HB) hb); (try clear hb); (try clear hb2); (try clear hk); (try clear hi)) | ((with_reducible refine gate_dst (N := 9) rfl ?_); refine zbe (N := 9) (cs := #[.int .i64 0, .int .i64 0, .int .i64 0, .int .i64 0]) (t := 55) ?_; intro gb220 hg w15 hbox hb; have BK220 := Aside0.mk (hbox); have GW220 := Aside0.mk (zge (zb1 HB) hg); have GE220 := GW220; have NB214_220 := Aside0.mk (zlt BK214 hg); have NB220_214 := Aside0.mk (zgt BK214 hg); replace HO_5 := Aside0.mk (Kd.R_below (Kd.R_elderB (zq3 HO_5) gb220 (Nat.le_of_eq hg.symm)) hb); replace BK214 := Aside0.mk (zbb BK214 hb); replace HB := Aside0.mk (below_step (zb1 HB) hb); clear hb hbox hg; have hnb16 := NB220_214.out; have hnc16 := NB214_220.out; have hcz17_0 : w15.cell? ⟨gb220, 0, none⟩ = some (.int .i64 0) := zc BK220 0; have hcz17_1 : w15.cell? ⟨gb220, 1, none⟩ = some (.int .i64 0) := zc BK220 1; have hcz17_2 : w15.cell? ⟨gb220, 2, none⟩ = some (.int .i64 0) := zc BK220 2; have hcz17_3 : w15.cell? ⟨gb220, 3, none⟩ = some (.int .i64 0) := zc BK220 3; have hfz17_0 := blk_frozen BK220.out 0; have hfz17_1 := blk_frozen BK220.out 1; have hfz17_2 := blk_frozen BK220.out 2; have hfz17_3 := blk_frozen BK220.out 3) | ((with_reducible refine gate_builtin (b := .append) (xs := #[.tmp 31, .tmp 33]) rfl ?_); at_builtin; refine Kd.R_append k55 (w0 := w) w.heap.size rfl (.tmp 31) (.tmp 33) 25 55 (.agg #[(.int .i64 0), (.int .i64 0), (.int .i64 0), (.int .i64 0)]) 32 rfl Try.underlying25 info55 rfl (by decide) (by omega) u5 x5_1 (⟨wrap64 (t216 * t215), t217, t218, t219⟩ : S55) [.int .i64 (wrap64 (t216 * t215)), .int .i64 t217, .int .i64 t218, .int .i64 t219] (fun k_ => k_ ≠ gb214 ∧ k_ ≠ gb220) (fun _ => False) rfl (by first | (go_simp; done) | (go_simp; rfl)) ?aP (fun _ hk => hk.elim) ?aF ?aO ?aB ?aS ?aL ?_; (case aP => exact k55_mkM _ _ _ (⟨wrap64 (t216 * t215), t217, t218, t219⟩ : S55)); (case aB => exact (zb1 HB)); (case aF => exact (fun k_ hk => ⟨Kd.freshB (g := gb214) (o := .cells #[.int .i64 ((rd_T55 l0 x12_1).f0), .int .i64 ((rd_T55 l0 x12_1).f1), .int .i64 ((rd_T55 l0 x12_1).f2), .int .i64 ((rd_T55 l0 x12_1).f3)] 55 (0, 0)) (zq5 BK214) k_ hk, Kd.freshB (g := gb220) (o := .cells #[.int .i64 (wrap64 (t216 * t215)), .int .i64 t217, .int .i64 t218, .int .i64 t219] 55 (0, 0)) (by (with_reducible repeat (first | refine blk_drewN ?_ _ | refine blk_drew ?_ | refine blk_alloc ?_ _)); refine blk_put (cs := #[.int .i64 t216, .int .i64 t217, .int .i64 t218, .int .i64 t219]) ?_ 0 _ rfl; (with_reducible repeat (first | refine blk_drewN ?_ _ | refine blk_drew ?_ | refine blk_alloc ?_ _)); refine blk_put (cs := #[.int .i64 t216, .int .i64 t217, .int .i64 t218, .int .i64 0]) ?_ 3 _ rfl; (with_reducible repeat (first | refine blk_drewN ?_ _ | refine blk_drew ?_ | refine blk_alloc ?_ _)); refine blk_put (cs := #[.int .i64 t216, .int .i64 t217, .int .i64 0, .int .i64 0]) ?_ 2 _ rfl; (with_reducible repeat (first | refine blk_drewN ?_ _ | refine blk_drew ?_ | refine blk_alloc ?_ _)); refine blk_put (cs := #[.int .i64 t216, .int .i64 0, .int .i64 0, .int .i64 0]) ?_ 1 _ rfl; (with_reducible repeat (first | refine blk_drewN ?_ _ | refine blk_drew ?_ | refine blk_alloc ?_ _)); refine blk_put (cs := #[.int .i64 0, .int .i64 0, .int .i64 0, .int .i64 0]) ?_ 0 _ rfl; (with_reducible repeat (first | refine blk_drewN ?_ _ | refine blk_drew ?_ | refine blk_alloc ?_ _)); exact BK220.out) k_ hk⟩)); (case aO => exact (by (with_reducible repeat (first | apply Kd.R_alloc | apply Kd.R_drewN | apply Kd.R_drew)); exact Kd.R_mono (Kd.R_far (p := ⟨gb220, 0, none⟩) (Kd.R_far (p := ⟨gb220, 3, none⟩) (Kd.R_far (p := ⟨gb220, 2, none⟩) (Kd.R_far (p := ⟨gb220, 1, none⟩) (Kd.R_far (p := ⟨gb220, 0, none⟩) (Kd.R_mono HO_5.out (fun k_ hk => (⟨hk, hk.2⟩ : _ ∧ k_ ≠ gb220))) (fun _ hk => hk.2) (.int .i64 t216)) (fun _ hk => hk.2) (.int .i64 t217)) (fun _ hk => hk.2) (.int .i64 t218)) (fun _ hk => hk.2) (.int .i64 t219)) (fun _ hk => hk.2) (.int .i64 (wrap64 (t216 * t215)))) (fun _ hk => ⟨hk.1.1.2, hk.1.2⟩))); (case aS => exact (below_size (zb1 HB))); (case aL => have := LMc9.out; omega); intro v222 w18 ho hb hg hat; rw [← Ny221.out] at ho; have HO223 := Aside0.mk (ho); replace BK214 := Aside0.mk (blk_grown (g := gb214) (o := .cells #[.int .i64 ((rd_T55 l0 x12_1).f0), .int .i64 ((rd_T55 l0 x12_1).f1), .int .i64 ((rd_T55 l0 x12_1).f2), .int .i64 ((rd_T55 l0 x12_1).f3)] 55 (0, 0)) (zq5 BK214) hg (Kd.R_away HO_5.out (fun _ hk => hk.1.2))); replace BK220 := Aside0.mk (blk_grown (g := gb220) (o := .cells #[.int .i64 (wrap64 (t216 * t215)), .int .i64 t217, .int .i64 t218, .int .i64 t219] 55 (0, 0)) (by (with_reducible repeat (first | refine blk_drewN ?_ _ | refine blk_drew ?_ | refine blk_alloc ?_ _)); refine blk_put (cs := #[.int .i64 t216, .int .i64 t217, .int .i64 t218, .int .i64 t219]) ?_ 0 _ rfl; (with_reducible repeat (first | refine blk_drewN ?_ _ | refine blk_drew ?_ | refine blk_alloc ?_ _)); refine blk_put (cs := #[.int .i64 t216, .int .i64 t217, .int .i64 t218, .int .i64 0]) ?_ 3 _ rfl; (with_reducible repeat (first | refine blk_drewN ?_ _ | refine blk_drew ?_ | refine blk_alloc ?_ _)); refine blk_put (cs := #[.int .i64 t216, .int .i64 t217, .int .i64 0, .int .i64 0]) ?_ 2 _ rfl; (with_reducible repeat (first | refine blk_drewN ?_ _ | refine blk_drew ?_ | refine blk_alloc ?_ _)); refine blk_put (cs := #[.int .i64 t216, .int .i64 0, .int .i64 0, .int .i64 0]) ?_ 1 _ rfl; (with_reducible repeat (first | refine blk_drewN ?_ _ | refine blk_drew ?_ | refine blk_alloc ?_ _)); refine blk_put (cs := #[.int .i64 0, .int .i64 0, .int .i64 0, .int .i64 0]) ?_ 0 _ rfl; (with_reducible repeat (first | refine blk_drewN ?_ _ | refine blk_drew ?_ | refine blk_alloc ?_ _)); exact BK220.out) hg (Kd.R_away HO_5.out (fun _ hk => hk.2))); replace HB := Aside0.mk (hb); clear HO_5; clear ho hb hg hat))
        go_roundg k1
        case measure => have := HK1.out; omega
        case rel => exact ⟨(y221), (wrap64 (x12_1 + 1)), (by first | rfl | (simp; done) | (simp [*]; done)), H', ⟨by have := HK1.out; omega⟩, ⟨by (with_reducible repeat (first | apply Kd.R_alloc | apply Kd.R_drewN | apply Kd.R_drew)); exact Kd.R_mono HO223.out (fun _ hk => trivial)⟩, ⟨(zb1 HB)⟩⟩
       ·
        rw [if_neg c9] at H
        exact absurd H (by simp)
      ·
       rw [if_neg c7] at H
       have c7b0 : decide (0 < t215) = false := decide_eq_false c7
       clear c7
       have H' := Aside0.mk H
       clear H
       have p213 : 0 ≤ (x12_1 : Int) := of_decide_eq_true (by first | (with_reducible assumption) | assumption)
       have q213 : x12_1 < (l0.length : Int) := of_decide_eq_true (by first | (with_reducible assumption) | assumption)
       obtain ⟨ad213, e213, hx213_0, hx213_1, hx213_2, hx213_3⟩ := at_T55 HR0.out x12_1 p213 q213
       cases e213
       replace hx213_0 := (HB.out.cell (World.block_lt_of_cell? w _ hx213_0)).trans hx213_0
       replace hx213_1 := (HB.out.cell (World.block_lt_of_cell? w _ hx213_1)).trans hx213_1
       replace hx213_2 := (HB.out.cell (World.block_lt_of_cell? w _ hx213_2)).trans hx213_2
       replace hx213_3 := (HB.out.cell (World.block_lt_of_cell? w _ hx213_3)).trans hx213_3
       replace p213 := eq_true p213
       replace q213 := eq_true q213
       go_wp2_with (first | ((with_reducible refine gate_dst (N := 7) rfl ?_); refine zbe (N := 7) (cs := #[.int .i64 0, .int .i64 0, .int .i64 0, .int .i64 0]) (t := 55) ?_; intro gb214 hg w19 hbox hb; have BK214 := Aside0.mk (hbox); have GW214 := Aside0.mk (zge (zb0 HB) hg); have GE214 := GW214; replace HO_5 := Aside0.mk (Kd.R_below (Kd.R_elderB (zq3 HO_5) gb214 (Nat.le_of_eq hg.symm)) hb); replace HB := Aside0.mk (below_step (zb0 HB) hb); clear hb hbox hg; have hcz20_0 : w19.cell? ⟨gb214, 0, none⟩ = some (.int .i64 0) := zc BK214 0; have hcz20_1 : w19.cell? ⟨gb214, 1, none⟩ = some (.int .i64 0) := zc BK214 1; have hcz20_2 : w19.cell? ⟨gb214, 2, none⟩ = some (.int .i64 0) := zc BK214 2; have hcz20_3 : w19.cell? ⟨gb214, 3, none⟩ = some (.int .i64 0) := zc BK214 3; have hfz20_0 := blk_frozen BK214.out 0; have hfz20_1 := blk_frozen BK214.out 1; have hfz20_2 := blk_frozen BK214.out 2; have hfz20_3 := blk_frozen BK214.out 3) | ((with_reducible refine gate_callee (f := 81) rfl ?_); refine goesL_ (some 18) rfl rfl Try.func81 (by kernel_rfl) rfl #[.agg #[.int .i64 ((rd_T55 l0 x12_1).f0), .int .i64 ((rd_T55 l0 x12_1).f1), .int .i64 ((rd_T55 l0 x12_1).f2), .int .i64 ((rd_T55 l0 x12_1).f3)], .int .i64 a1] rfl zq6 ?_; (with_reducible refine (spec_poPower.calls ((rd_T55 l0 x12_1).f0) ((rd_T55 l0 x12_1).f1) ((rd_T55 l0 x12_1).f2) ((rd_T55 l0 x12_1).f3) a1 t215 _ A6.out).mono ?_); rintro e w21 ⟨rfl, hb⟩; refine ⟨_, rfl, ?_⟩; replace HO_5 := Aside0.mk (Kd.R_below (by (with_reducible repeat (first | apply Kd.R_alloc | apply Kd.R_drewN | apply Kd.R_drew)); exact (Kd.R_mono (Kd.R_far (p := ⟨gb214, 3, none⟩) (Kd.R_far (p := ⟨gb214, 2, none⟩) (Kd.R_far (p := ⟨gb214, 1, none⟩) (Kd.R_far (p := ⟨gb214, 0, none⟩) (Kd.R_mono HO_5.out (fun k_ hk => (⟨hk, hk.2⟩ : _ ∧ k_ ≠ gb214))) (fun _ hk => hk.2) (.int .i64 ((rd_T55 l0 x12_1).f0))) (fun _ hk => hk.2) (.int .i64 ((rd_T55 l0 x12_1).f1))) (fun _ hk => hk.2) (.int .i64 ((rd_T55 l0 x12_1).f2))) (fun _ hk => hk.2) (.int .i64 ((rd_T55 l0 x12_1).f3))) (fun _ h_ => h_.1))) hb); replace BK214 := Aside0.mk (blk_below (g := gb214) (o := .cells #[.int .i64 ((rd_T55 l0 x12_1).f0), .int .i64 ((rd_T55 l0 x12_1).f1), .int .i64 ((rd_T55 l0 x12_1).f2), .int .i64 ((rd_T55 l0 x12_1).f3)] 55 (0, 0)) (by (with_reducible repeat (first | refine blk_drewN ?_ _ | refine blk_drew ?_ | refine blk_alloc ?_ _)); refine blk_put (cs := #[.int .i64 ((rd_T55 l0 x12_1).f0), .int .i64 ((rd_T55 l0 x12_1).f1), .int .i64 ((rd_T55 l0 x12_1).f2), .int .i64 0]) ?_ 3 _ rfl; (with_reducible repeat (first | refine blk_drewN ?_ _ | refine blk_drew ?_ | refine blk_alloc ?_ _)); refine blk_put (cs := #[.int .i64 ((rd_T55 l0 x12_1).f0), .int .i64 ((rd_T55 l0 x12_1).f1), .int .i64 0, .int .i64 0]) ?_ 2 _ rfl; (with_reducible repeat (first | refine blk_drewN ?_ _ | refine blk_drew ?_ | refine blk_alloc ?_ _)); refine blk_put (cs := #[.int .i64 ((rd_T55 l0 x12_1).f0), .int .i64 0, .int .i64 0, .int .i64 0]) ?_ 1 _ rfl; (with_reducible repeat (first | refine blk_drewN ?_ _ | refine blk_drew ?_ | refine blk_alloc ?_ _)); refine blk_put (cs := #[.int .i64 0, .int .i64 0, .int .i64 0, .int .i64 0]) ?_ 0 _ rfl; (with_reducible repeat (first | refine blk_drewN ?_ _ | refine blk_drew ?_ | refine blk_alloc ?_ _)); exact BK214.out) hb); replace HB := Aside0.mk (below_step (zb1 HB) hb); (try clear hb); (try clear hb2); (try clear hk); (try clear hi)))
       go_roundg k1
       case measure => have := HK1.out; omega
       case rel => exact ⟨(x5_1), (wrap64 (x12_1 + 1)), (by first | rfl | (simp; done) | (simp [*]; done)), H', ⟨by have := HK1.out; omega⟩, ⟨by (with_reducible repeat (first | apply Kd.R_alloc | apply Kd.R_drewN | apply Kd.R_drew)); exact Kd.R_mono HO_5.out (fun _ hk => trivial)⟩, ⟨(zb1 HB)⟩⟩
     ·
      rw [if_neg c5] at H
      exact absurd H (by simp)
    ·
     rw [if_neg c4] at H
     exact absurd H (by simp)
   ·
    rw [if_neg c3] at H
    have c3b0 : decide (x12_1 < (l0.length : Int)) = false := decide_eq_false c3
    clear c3
    obtain rfl := Option.some.inj H
    go_wp2
    go_ret
    exact ⟨_, by first | rfl | (simp [errW_none, errW_some] <;> rfl) | (simp [*, errW_none, errW_some] <;> rfl), by (with_reducible repeat (first | apply Kd.R_alloc | apply Kd.R_drewN | apply Kd.R_drew)); exact HO_5.out, (zb0 HB)⟩
end Go.Proofs.Ytfnmppeoleicbaa.PD
