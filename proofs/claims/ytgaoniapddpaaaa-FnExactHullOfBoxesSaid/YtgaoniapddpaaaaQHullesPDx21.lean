-- By wip/mk/drv.py
import Derived.Test.YtgaoniapddpaaaaQHullesPDx0
import Derived.Test.YtgaoniapddpaaaaQHullesPDx1
import Derived.Test.YtgaoniapddpaaaaQHullesPDx2
import Derived.Test.YtgaoniapddpaaaaQHullesPDx3
import Derived.Test.YtgaoniapddpaaaaQHullesPDx8
import Derived.Test.YtgaoniapddpaaaaQHullesPDx15
namespace Go.Proofs.Ytgaoniapddpaaaa.PD
open Go.RowKit Go.Proofs.YtgaoniapddpaaaaW.PrintWords Go.Proofs.YtgaoniapddpaaaaW.PrintLast Go.Proofs.YtgaoniapddpaaaaW.PrintMore
attribute [local go_sem] max2_int min2_int max_two min_two max_three min_three max_four min_four
set_option linter.unusedVariables false
set_option linter.unusedSimpArgs false
/-! ### spec_HullOfBoxes: function 41 -/
def spec_HullOfBoxes.T9 : Bool × List (List Nat × List Nat) := (true, [([], []), ([], []), ([], []), ([], []), ([2, 3], [2, 3]), ([4], [4]), ([], []), ([], []), ([6, 7], [6, 7]), ([8], [8]), ([5, 9], [5, 9]), ([0, 1, 0, 1, 2, 3, 4, 5, 6, 7, 8, 9, 10], [0, 1]), ([11, 10, 10, 0, 1, 2, 3, 4, 5, 6, 7, 8, 9, 10], [10, 11])])
def spec_HullOfBoxes.B9 : List Nat := [0, 0, 0, 0, 12, 28, 0, 0, 192, 448, 1020, 2047, 4095]
theorem spec_HullOfBoxes.tab9 : rtab .any (opsOf Try.f41 9) = spec_HullOfBoxes.T9 := by kernel_rfl
theorem spec_HullOfBoxes.bits9 : waitsOk spec_HullOfBoxes.T9.2 spec_HullOfBoxes.B9 = true := by kernel_rfl
set_option maxHeartbeats 8000000 in
set_option maxRecDepth 100000 in
theorem spec_HullOfBoxes.calls (k : Nat) (a0_0 : Int) (A0_1 : Option Addr) (c0_1 : Nat) (l0_1 : List Int) (A0_2 : Option Addr) (c0_2 : Nat) (l0_2 : List Int) (a1_0 : Int) (A1_1 : Option Addr) (c1_1 : Nat) (l1_1 : List Int) (A1_2 : Option Addr) (c1_2 : Nat) (l1_2 : List Int) (r1 : Int) (r2 : List Int) (r3 : List Int) (r4 : Bool) (w : World) (hr0_1 : Kd.C (Kd.int .i64) w A0_1 l0_1.length l0_1) (hc0_1 : l0_1.length ≤ c0_1) (hr0_2 : Kd.C (Kd.int .i64) w A0_2 l0_2.length l0_2) (hc0_2 : l0_2.length ≤ c0_2) (hr1_1 : Kd.C (Kd.int .i64) w A1_1 l1_1.length l1_1) (hc1_1 : l1_1.length ≤ c1_1) (hr1_2 : Kd.C (Kd.int .i64) w A1_2 l1_2.length l1_2) (hc1_2 : l1_2.length ≤ c1_2) (h : spec_HullOfBoxes.f k a0_0 l0_1 l0_2 a1_0 l1_1 l1_2 = some (r1, r2, r3, r4)) :
  Calls Try.prog 41 #[.agg #[.int .i64 a0_0, .slice A0_1 l0_1.length c0_1, .slice A0_2 l0_2.length c0_2], .agg #[.int .i64 a1_0, .slice A1_1 l1_1.length c1_1, .slice A1_2 l1_2.length c1_2]] w fun e w' => ∃ v1_ v2_ : Value, e = .returned (.tuple #[.agg #[.int .i64 r1, v1_, v2_], .bool r4]) ∧ Kd.R (Kd.int .i64) 3 w' w.heap.size (fun k_ => some k_ ≠ (v2_ : Value).ownBlock) v1_ r2 ∧ Kd.R (Kd.int .i64) 3 w' w.heap.size (fun k_ => some k_ ≠ (v1_ : Value).ownBlock) v2_ r3 ∧ Below w.heap.size w w' := by
 have hu27 := Try.underlying27
 have HR0_1 := Aside0.mk hr0_1
 have HC0_1 := Aside0.mk hc0_1
 clear hr0_1 hc0_1
 have HR0_2 := Aside0.mk hr0_2
 have HC0_2 := Aside0.mk hc0_2
 clear hr0_2 hc0_2
 have HR1_1 := Aside0.mk hr1_1
 have HC1_1 := Aside0.mk hc1_1
 clear hr1_1 hc1_1
 have HR1_2 := Aside0.mk hr1_2
 have HC1_2 := Aside0.mk hc1_2
 clear hr1_2 hc1_2
 have HB := Aside0.mk (Below.refl w.heap.size w)
 have H : ((spec_bxTwo.f k a0_0 l0_1 l0_2 a1_0 l1_1 l1_2).bind fun t375 => (if t375 = true then ((spec_bxAt.f k a0_0 l0_1 l0_2).bind fun bt376 => ((spec_bxAt.f k a1_0 l1_1 l1_2).bind fun bt382 => (spec_HullOfBoxes.l0 k bt376.1 bt376.2 bt382.2 bt382.1 (bt382.1.length : Int) 0))) else (some (0, ([] : List Int), ([] : List Int), false)))) = some (r1, r2, r3, r4) := h
 clear h
 replace H := Option.bind_eq_some_iff.mp H
 obtain ⟨t375, A30, H⟩ := H
 replace H : (if t375 = true then ((spec_bxAt.f k a0_0 l0_1 l0_2).bind fun bt376 => ((spec_bxAt.f k a1_0 l1_1 l1_2).bind fun bt382 => (spec_HullOfBoxes.l0 k bt376.1 bt376.2 bt382.2 bt382.1 (bt382.1.length : Int) 0))) else (some (0, ([] : List Int), ([] : List Int), false))) = some (r1, r2, r3, r4) := H
 have A3 := Aside0.mk A30
 clear A30
 by_cases c4 : t375 = true
 ·
  subst c4
  have H1 : ((spec_bxAt.f k a0_0 l0_1 l0_2).bind fun bt376 => ((spec_bxAt.f k a1_0 l1_1 l1_2).bind fun bt382 => (spec_HullOfBoxes.l0 k bt376.1 bt376.2 bt382.2 bt382.1 (bt382.1.length : Int) 0))) = some (r1, r2, r3, r4) := by rw [if_pos rfl] at H; exact H
  clear H
  have H := H1
  clear H1
  replace H := Option.bind_eq_some_iff.mp H
  obtain ⟨⟨t376, t379⟩, A50, H⟩ := H
  replace H : ((spec_bxAt.f k a1_0 l1_1 l1_2).bind fun bt382 => (spec_HullOfBoxes.l0 k t376 t379 bt382.2 bt382.1 (bt382.1.length : Int) 0)) = some (r1, r2, r3, r4) := H
  have A5 := Aside0.mk A50
  clear A50
  replace H := Option.bind_eq_some_iff.mp H
  obtain ⟨⟨t382, t385⟩, A60, H⟩ := H
  replace H : (spec_HullOfBoxes.l0 k t376 t379 t385 t382 (t382.length : Int) 0) = some (r1, r2, r3, r4) := H
  have A6 := Aside0.mk A60
  clear A60
  have H' := Aside0.mk H
  clear H
  go_enter Try.func41, Try.ntmps41
  go_wp2_with (first | ((with_reducible refine gate_dst (N := 2) rfl ?_); refine zbe (N := 2) (cs := #[.int .i64 a0_0, .slice A0_1 l0_1.length c0_1, .slice A0_2 l0_2.length c0_2]) (t := 27) ?_; intro gb372 hg w7 hbox hb; have BK372 := Aside0.mk (hbox); have GW372 := Aside0.mk (zge (zb0 HB) hg); have GE372 := GW372; replace HB := Aside0.mk (below_step (zb0 HB) hb); clear hb hbox hg) | ((with_reducible refine gate_dst (N := 3) rfl ?_); refine zbe (N := 3) (cs := #[.int .i64 a1_0, .slice A1_1 l1_1.length c1_1, .slice A1_2 l1_2.length c1_2]) (t := 27) ?_; intro gb373 hg w8 hbox hb; have BK373 := Aside0.mk (hbox); have GW373 := Aside0.mk (zge (zb1 HB) hg); have GE373 := GW373; have NB372_373 := Aside0.mk (zlt BK372 hg); have NB373_372 := Aside0.mk (zgt BK372 hg); replace BK372 := Aside0.mk (zbb BK372 hb); replace HB := Aside0.mk (below_step (zb1 HB) hb); clear hb hbox hg) | ((with_reducible refine gate_dst (N := 4) rfl ?_); refine zbe (N := 4) (cs := #[.int .i64 0, .slice none 0 0, .slice none 0 0]) (t := 27) ?_; intro gb374 hg w9 hbox hb; have BK374 := Aside0.mk (hbox); have GW374 := Aside0.mk (zge (zb1 HB) hg); have GE374 := GW374; have NB372_374 := Aside0.mk (zlt BK372 hg); have NB374_372 := Aside0.mk (zgt BK372 hg); have NB373_374 := Aside0.mk (zlt BK373 hg); have NB374_373 := Aside0.mk (zgt BK373 hg); replace BK372 := Aside0.mk (zbb BK372 hb); replace BK373 := Aside0.mk (zbb BK373 hb); replace HB := Aside0.mk (below_step (zb1 HB) hb); clear hb hbox hg; have hnb10 := NB372_373.out; have hnc10 := NB373_372.out; have hnb11 := NB372_374.out; have hnc11 := NB374_372.out; have hcz12_0 : w9.cell? ⟨gb372, 0, none⟩ = some (.int .i64 a0_0) := zc BK372 0; have hcz12_1 : w9.cell? ⟨gb372, 1, none⟩ = some (.slice A0_1 l0_1.length c0_1) := zc BK372 1; have hcz12_2 : w9.cell? ⟨gb372, 2, none⟩ = some (.slice A0_2 l0_2.length c0_2) := zc BK372 2; have hfz12_0 := blk_frozen BK372.out 0; have hfz12_1 := blk_frozen BK372.out 1; have hfz12_2 := blk_frozen BK372.out 2; have hnb13 := NB373_374.out; have hnc13 := NB374_373.out; have hcz14_0 : w9.cell? ⟨gb373, 0, none⟩ = some (.int .i64 a1_0) := zc BK373 0; have hcz14_1 : w9.cell? ⟨gb373, 1, none⟩ = some (.slice A1_1 l1_1.length c1_1) := zc BK373 1; have hcz14_2 : w9.cell? ⟨gb373, 2, none⟩ = some (.slice A1_2 l1_2.length c1_2) := zc BK373 2; have hfz14_0 := blk_frozen BK373.out 0; have hfz14_1 := blk_frozen BK373.out 1; have hfz14_2 := blk_frozen BK373.out 2) | ((with_reducible refine gate_callee (f := 60) rfl ?_); refine goesL_ (some 14) rfl rfl Try.func60 (by kernel_rfl) rfl #[.agg #[.int .i64 a0_0, .slice A0_1 l0_1.length c0_1, .slice A0_2 l0_2.length c0_2], .agg #[.int .i64 a1_0, .slice A1_1 l1_1.length c1_1, .slice A1_2 l1_2.length c1_2]] rfl zq6 ?_; (with_reducible refine (spec_bxTwo.calls k a0_0 _ _ l0_1 _ _ l0_2 a1_0 _ _ l1_1 _ _ l1_2 true _ ?side1 ?side2 ?side3 ?side4 ?side5 ?side6 ?side7 ?side8 A3.out).mono ?_); (case side1 => repeat (first | exact (Kd.C_below HR0_1.out HB.out) | (with_reducible refine Kd.C_alloc ?_ _) | (with_reducible refine Kd.C_drewN ?_ _) | (with_reducible refine Kd.C_drew ?_))); (case side2 => exact HC0_1.out); (case side3 => repeat (first | exact (Kd.C_below HR0_2.out HB.out) | (with_reducible refine Kd.C_alloc ?_ _) | (with_reducible refine Kd.C_drewN ?_ _) | (with_reducible refine Kd.C_drew ?_))); (case side4 => exact HC0_2.out); (case side5 => repeat (first | exact (Kd.C_below HR1_1.out HB.out) | (with_reducible refine Kd.C_alloc ?_ _) | (with_reducible refine Kd.C_drewN ?_ _) | (with_reducible refine Kd.C_drew ?_))); (case side6 => exact HC1_1.out); (case side7 => repeat (first | exact (Kd.C_below HR1_2.out HB.out) | (with_reducible refine Kd.C_alloc ?_ _) | (with_reducible refine Kd.C_drewN ?_ _) | (with_reducible refine Kd.C_drew ?_))); (case side8 => exact HC1_2.out); rintro e w15 ⟨rfl, hb⟩; refine ⟨_, rfl, ?_⟩; replace BK372 := Aside0.mk (zbb BK372 hb); replace BK373 := Aside0.mk (zbb BK373 hb); replace BK374 := Aside0.mk (zbb BK374 hb); replace HB := Aside0.mk (below_step (zb1 HB) hb); (try clear hb); (try clear hb2); (try clear hk); (try clear hi); have hcz16_0 : w15.cell? ⟨gb372, 0, none⟩ = some (.int .i64 a0_0) := zc BK372 0; have hcz16_1 : w15.cell? ⟨gb372, 1, none⟩ = some (.slice A0_1 l0_1.length c0_1) := zc BK372 1; have hcz16_2 : w15.cell? ⟨gb372, 2, none⟩ = some (.slice A0_2 l0_2.length c0_2) := zc BK372 2; have hfz16_0 := blk_frozen BK372.out 0; have hfz16_1 := blk_frozen BK372.out 1; have hfz16_2 := blk_frozen BK372.out 2) | ((with_reducible refine gate_callee (f := 82) rfl ?_); refine goesL_ (some 19) rfl rfl Try.func82 (by kernel_rfl) rfl #[.agg #[.int .i64 a0_0, .slice A0_1 l0_1.length c0_1, .slice A0_2 l0_2.length c0_2]] rfl zq6 ?_; (with_reducible refine (spec_bxAt.calls k a0_0 _ _ l0_1 _ _ l0_2 t376 t379 _ ?side1 ?side2 ?side3 ?side4 A5.out).mono ?_); (case side1 => repeat (first | exact (Kd.C_below HR0_1.out HB.out) | (with_reducible refine Kd.C_alloc ?_ _) | (with_reducible refine Kd.C_drewN ?_ _) | (with_reducible refine Kd.C_drew ?_))); (case side2 => exact HC0_1.out); (case side3 => repeat (first | exact (Kd.C_below HR0_2.out HB.out) | (with_reducible refine Kd.C_alloc ?_ _) | (with_reducible refine Kd.C_drewN ?_ _) | (with_reducible refine Kd.C_drew ?_))); (case side4 => exact HC0_2.out); rintro e w17 ⟨v377, v380, rfl, ho0, ho1, hb⟩; refine ⟨_, rfl, ?_⟩; have HO378 := Aside0.mk (Kd.R_lower ho0 (below_size (zb1 HB))); have HO381 := Aside0.mk (Kd.R_lower ho1 (below_size (zb1 HB))); replace BK372 := Aside0.mk (zbb BK372 hb); replace BK373 := Aside0.mk (zbb BK373 hb); replace BK374 := Aside0.mk (zbb BK374 hb); replace HB := Aside0.mk (below_step (zb1 HB) hb); (try clear hb); (try clear hb2); (try clear hk); (try clear hi); (try clear ho0); (try clear ho1); have hcz18_0 : w17.cell? ⟨gb373, 0, none⟩ = some (.int .i64 a1_0) := zc BK373 0; have hcz18_1 : w17.cell? ⟨gb373, 1, none⟩ = some (.slice A1_1 l1_1.length c1_1) := zc BK373 1; have hcz18_2 : w17.cell? ⟨gb373, 2, none⟩ = some (.slice A1_2 l1_2.length c1_2) := zc BK373 2; have hfz18_0 := blk_frozen BK373.out 0; have hfz18_1 := blk_frozen BK373.out 1; have hfz18_2 := blk_frozen BK373.out 2) | ((with_reducible refine gate_callee (f := 82) rfl ?_); refine goesL_ (some 24) rfl rfl Try.func82 (by kernel_rfl) rfl #[.agg #[.int .i64 a1_0, .slice A1_1 l1_1.length c1_1, .slice A1_2 l1_2.length c1_2]] rfl zq6 ?_; (with_reducible refine (spec_bxAt.calls k a1_0 _ _ l1_1 _ _ l1_2 t382 t385 _ ?side1 ?side2 ?side3 ?side4 A6.out).mono ?_); (case side1 => repeat (first | exact (Kd.C_below HR1_1.out HB.out) | (with_reducible refine Kd.C_alloc ?_ _) | (with_reducible refine Kd.C_drewN ?_ _) | (with_reducible refine Kd.C_drew ?_))); (case side2 => exact HC1_1.out); (case side3 => repeat (first | exact (Kd.C_below HR1_2.out HB.out) | (with_reducible refine Kd.C_alloc ?_ _) | (with_reducible refine Kd.C_drewN ?_ _) | (with_reducible refine Kd.C_drew ?_))); (case side4 => exact HC1_2.out); rintro e w19 ⟨v383, v386, rfl, ho0, ho1, hb⟩; refine ⟨_, rfl, ?_⟩; have HO384 := Aside0.mk (Kd.R_lower (Kd.R_new' (Kd.R_new' ho0 (Kd.R_lt (zq3 HO378))) (Kd.R_lt (zq3 HO381))) (below_size (zb1 HB))); have HO387 := Aside0.mk (Kd.R_lower (Kd.R_new' (Kd.R_new' ho1 (Kd.R_lt (zq3 HO378))) (Kd.R_lt (zq3 HO381))) (below_size (zb1 HB))); replace HO378 := Aside0.mk (Kd.R_mono (Kd.R_told (Kd.R_told (Kd.R_old (zq3 HO378) hb) (Kd.R_base ho0)) (Kd.R_base ho1)) (fun _ h_ => h_.1)); replace HO381 := Aside0.mk (Kd.R_mono (Kd.R_told (Kd.R_told (Kd.R_old (zq3 HO381) hb) (Kd.R_base ho0)) (Kd.R_base ho1)) (fun _ h_ => h_.1)); replace BK372 := Aside0.mk (zbb BK372 hb); replace BK373 := Aside0.mk (zbb BK373 hb); replace BK374 := Aside0.mk (zbb BK374 hb); replace HB := Aside0.mk (below_step (zb1 HB) hb); (try clear hb); (try clear hb2); (try clear hk); (try clear hi); (try clear ho0); (try clear ho1); obtain ⟨Ao20, co20, eo20⟩ := Kd.R_slice HO384.out; subst eo20))
  go_loopg [29] k (fun kq v29 w' => ∃ (x6_1 : List Int) (x7_1 : List Int) (x29_1 : Int), v29 = .int .i64 x29_1 ∧ Aside0 (spec_HullOfBoxes.l0 kq x6_1 x7_1 t385 t382 (t382.length : Int) x29_1 = some (r1, r2, r3, r4)) ∧ Aside0 (kq ≤ k) ∧ Aside0 (Kd.R (Kd.int .i64) 3 w' w.heap.size (fun k_ => some k_ ≠ (v380 : Value).ownBlock ∧ some k_ ≠ (v386 : Value).ownBlock ∧ some k_ ≠ ((.slice Ao20 t382.length co20) : Value).ownBlock) v377 x6_1) ∧ Aside0 (Kd.R (Kd.int .i64) 3 w' w.heap.size (fun k_ => some k_ ≠ (v377 : Value).ownBlock ∧ some k_ ≠ (v386 : Value).ownBlock ∧ some k_ ≠ ((.slice Ao20 t382.length co20) : Value).ownBlock) v380 x7_1) ∧ Aside0 (Kd.R (Kd.int .i64) 3 w' w.heap.size (fun k_ => some k_ ≠ (v377 : Value).ownBlock ∧ some k_ ≠ (v380 : Value).ownBlock ∧ some k_ ≠ ((.slice Ao20 t382.length co20) : Value).ownBlock) v386 t385) ∧ Aside0 (Kd.R (Kd.int .i64) 3 w' w.heap.size (fun k_ => some k_ ≠ (v377 : Value).ownBlock ∧ some k_ ≠ (v380 : Value).ownBlock ∧ some k_ ≠ (v386 : Value).ownBlock) (.slice Ao20 t382.length co20) t382) ∧ Aside0 (w'.heap[gb372]? = some (.cells #[.int .i64 a0_0, (.slice A0_1 l0_1.length c0_1), (.slice A0_2 l0_2.length c0_2)] 27 (0, 0))) ∧ Aside0 (w'.heap[gb373]? = some (.cells #[.int .i64 a1_0, (.slice A1_1 l1_1.length c1_1), (.slice A1_2 l1_2.length c1_2)] 27 (0, 0))) ∧ Aside0 (w'.heap[gb374]? = some (.cells #[.int .i64 0, (.slice none 0 0), (.slice none 0 0)] 27 (0, 0))) ∧ Aside0 (Below w.heap.size w w'))
  case atStart => exact ⟨(t376), (t379), (0), (by first | rfl | (simp; done) | (simp [*]; done)), H', ⟨Nat.le_refl _⟩, ⟨by (with_reducible repeat (first | apply Kd.R_alloc | apply Kd.R_drewN | apply Kd.R_drew)); exact Kd.R_mono HO378.out (fun _ hk => ⟨hk.1.1, ⟨hk.2, hk.1.2⟩⟩)⟩, ⟨by (with_reducible repeat (first | apply Kd.R_alloc | apply Kd.R_drewN | apply Kd.R_drew)); exact Kd.R_mono HO381.out (fun _ hk => ⟨hk.1.1, ⟨hk.2, hk.1.2⟩⟩)⟩, ⟨by (with_reducible repeat (first | apply Kd.R_alloc | apply Kd.R_drewN | apply Kd.R_drew)); exact Kd.R_mono HO387.out (fun _ hk => ⟨hk.1.2, ⟨hk.2, hk.1.1⟩⟩)⟩, ⟨by (with_reducible repeat (first | apply Kd.R_alloc | apply Kd.R_drewN | apply Kd.R_drew)); exact Kd.R_mono HO384.out (fun _ hk => ⟨hk.1.2, ⟨hk.2, hk.1.1⟩⟩)⟩, ⟨by (with_reducible repeat (first | refine blk_drewN ?_ _ | refine blk_drew ?_ | refine blk_alloc ?_ _)); exact BK372.out⟩, ⟨by (with_reducible repeat (first | refine blk_drewN ?_ _ | refine blk_drew ?_ | refine blk_alloc ?_ _)); exact BK373.out⟩, ⟨by (with_reducible repeat (first | refine blk_drewN ?_ _ | refine blk_drew ?_ | refine blk_alloc ?_ _)); exact BK374.out⟩, ⟨(zb1 HB)⟩⟩
  case round =>
   clear H'
   try clear c1
   try clear p2
   try clear c4
   try clear c6
   try clear c8
   try clear c10
   try clear c11
   try clear c13
   try clear hcz12_0
   try clear hcz12_1
   try clear hcz12_2
   try clear hcz14_0
   try clear hcz14_1
   try clear hcz14_2
   try clear hcz16_0
   try clear hcz16_1
   try clear hcz16_2
   try clear hcz18_0
   try clear hcz18_1
   try clear hcz18_2
   try clear hfz12_0
   try clear hfz12_1
   try clear hfz12_2
   try clear hfz14_0
   try clear hfz14_1
   try clear hfz14_2
   try clear hfz16_0
   try clear hfz16_1
   try clear hfz16_2
   try clear hfz18_0
   try clear hfz18_1
   try clear hfz18_2
   obtain ⟨x6_1, x7_1, x29_1, rfl, HA, HK1, HO_6, HO_7, HO_9, HO_27, BK372, BK373, BK374, HB⟩ := hrel
   cases gk with
   | zero => exact absurd HA.out (by simp [spec_HullOfBoxes.l0])
   | succ k1 =>
    have H := HA.out
    clear HA
    simp only [spec_HullOfBoxes.l0] at H
    by_cases c21 : x29_1 < (t382.length : Int)
    ·
     rw [if_pos c21] at H
     have c21b0 : decide (x29_1 < (t382.length : Int)) = true := decide_eq_true c21
     clear c21
     by_cases c22 : 0 ≤ x29_1
     ·
      rw [if_pos c22] at H
      have c22b0 : decide (0 ≤ x29_1) = true := decide_eq_true c22
      clear c22
      by_cases c23 : x29_1 < (t382.length : Int)
      ·
       rw [if_pos c23] at H
       have c23b0 : decide (x29_1 < (t382.length : Int)) = true := decide_eq_true c23
       clear c23
       by_cases c24 : x29_1 < (x6_1.length : Int)
       ·
        rw [if_pos c24] at H
        have c24b0 : decide (x29_1 < (x6_1.length : Int)) = true := decide_eq_true c24
        clear c24
        replace H := Option.bind_eq_some_iff.mp H
        obtain ⟨t390, A250, H⟩ := H
        replace H : (if x29_1 < (x7_1.length : Int) then (if x29_1 < (t385.length : Int) then ((spec_l1Most.f (rd x7_1 x29_1) (rd t385 x29_1)).bind fun t394 => (spec_HullOfBoxes.l0 k1 (x6_1.set (x29_1 : Int).toNat t390) (x7_1.set (x29_1 : Int).toNat t394) t385 t382 (t382.length : Int) (wrap64 (x29_1 + 1)))) else (none)) else (none)) = some (r1, r2, r3, r4) := H
        have A25 := Aside0.mk A250
        clear A250
        obtain ⟨y391, hy391⟩ : ∃ y_ : List Int, y_ = (x6_1.set (x29_1 : Int).toNat t390) := ⟨_, rfl⟩
        replace H : (if x29_1 < (x7_1.length : Int) then (if x29_1 < (t385.length : Int) then ((spec_l1Most.f (rd x7_1 x29_1) (rd t385 x29_1)).bind fun t394 => (spec_HullOfBoxes.l0 k1 y391 (x7_1.set (x29_1 : Int).toNat t394) t385 t382 (t382.length : Int) (wrap64 (x29_1 + 1)))) else (none)) else (none)) = some (r1, r2, r3, r4) := by first | (rw [hy391]; with_reducible exact H) | (have H2_ := (Option.bind_some _ _).symm.trans H; rw [hy391]; with_reducible exact H2_) | (have H2_ := (Option.bind_some _ _).symm.trans H; with_reducible exact H2_) | with_reducible exact H | (rw [hy391]; exact H) | exact H
        have Ny391 := Aside0.mk hy391
        clear hy391
        by_cases c27 : x29_1 < (x7_1.length : Int)
        ·
         rw [if_pos c27] at H
         have c27b0 : decide (x29_1 < (x7_1.length : Int)) = true := decide_eq_true c27
         clear c27
         by_cases c28 : x29_1 < (t385.length : Int)
         ·
          rw [if_pos c28] at H
          have c28b0 : decide (x29_1 < (t385.length : Int)) = true := decide_eq_true c28
          clear c28
          replace H := Option.bind_eq_some_iff.mp H
          obtain ⟨t394, A290, H⟩ := H
          replace H : (spec_HullOfBoxes.l0 k1 y391 (x7_1.set (x29_1 : Int).toNat t394) t385 t382 (t382.length : Int) (wrap64 (x29_1 + 1))) = some (r1, r2, r3, r4) := H
          have A29 := Aside0.mk A290
          clear A290
          obtain ⟨y395, hy395⟩ : ∃ y_ : List Int, y_ = (x7_1.set (x29_1 : Int).toNat t394) := ⟨_, rfl⟩
          replace H : (spec_HullOfBoxes.l0 k1 y391 y395 t385 t382 (t382.length : Int) (wrap64 (x29_1 + 1))) = some (r1, r2, r3, r4) := by first | (rw [hy395]; with_reducible exact H) | (have H2_ := (Option.bind_some _ _).symm.trans H; rw [hy395]; with_reducible exact H2_) | (have H2_ := (Option.bind_some _ _).symm.trans H; with_reducible exact H2_) | with_reducible exact H | (rw [hy395]; exact H) | exact H
          have Ny395 := Aside0.mk hy395
          clear hy395
          have H' := Aside0.mk H
          clear H
          have p388 : 0 ≤ (x29_1 : Int) := of_decide_eq_true (by first | (with_reducible assumption) | assumption)
          have q388 : x29_1 < (t382.length : Int) := of_decide_eq_true (by first | (with_reducible assumption) | assumption)
          obtain ⟨ad388, e388, hx388_0⟩ := Kd.at_int (Kd.R_reads' HO_27.out).2.2 x29_1 p388 q388
          cases e388
          replace p388 := eq_true p388
          replace q388 := eq_true q388
          obtain ⟨Ao31, co31, eo31⟩ := Kd.R_slice HO_6.out
          subst eo31
          have p389 : 0 ≤ (x29_1 : Int) := of_decide_eq_true (by first | (with_reducible assumption) | assumption)
          have q389 : x29_1 < (x6_1.length : Int) := of_decide_eq_true (by first | (with_reducible assumption) | assumption)
          obtain ⟨ad389, e389, hx389_0⟩ := Kd.at_int (Kd.R_reads' HO_6.out).2.2 x29_1 p389 q389
          cases e389
          replace p389 := eq_true p389
          replace q389 := eq_true q389
          try go_wp2_with (first | ((with_reducible refine gate_callee (f := 83) rfl ?_); refine goesL_ (some 41) rfl rfl Try.func83 (by kernel_rfl) rfl #[.int .i64 (rd x6_1 x29_1), .int .i64 (rd t382 x29_1)] rfl zq6 ?_; (with_reducible refine (spec_l1Least.calls (rd x6_1 x29_1) (rd t382 x29_1) t390 _ A25.out).mono ?_); rintro e w' ⟨rfl, ⟨nd, rfl⟩⟩; refine ⟨_, rfl, ?_⟩; (try (rw [drewN_self wr]; generalize hq_ : World.drewN wr _ = wr; have n0_ : Aside0 (Kd.R (Kd.int .i64) 3 wr w.heap.size (fun k_ => some k_ ≠ (.slice (some ad389) x6_1.length co31 : Value).ownBlock ∧ some k_ ≠ (v380 : Value).ownBlock ∧ some k_ ≠ (v386 : Value).ownBlock) (.slice (some ad388) t382.length co20) t382) := ⟨by rw [← hq_]; exact (zq3 HO_27)⟩; have n1_ : Aside0 (Kd.R (Kd.int .i64) 3 wr w.heap.size (fun k_ => some k_ ≠ (.slice (some ad388) t382.length co20 : Value).ownBlock ∧ some k_ ≠ (v380 : Value).ownBlock ∧ some k_ ≠ (v386 : Value).ownBlock) (.slice (some ad389) x6_1.length co31) x6_1) := ⟨by rw [← hq_]; exact (by (with_reducible repeat (first | apply Kd.R_alloc | apply Kd.R_drewN | apply Kd.R_drew)); exact Kd.R_mono HO_6.out (fun _ hk => ⟨hk.2.2, ⟨hk.1, hk.2.1⟩⟩))⟩; have n2_ : Aside0 (Kd.R (Kd.int .i64) 3 wr w.heap.size (fun k_ => some k_ ≠ (.slice (some ad388) t382.length co20 : Value).ownBlock ∧ some k_ ≠ (.slice (some ad389) x6_1.length co31 : Value).ownBlock ∧ some k_ ≠ (v386 : Value).ownBlock) v380 x7_1) := ⟨by rw [← hq_]; exact (by (with_reducible repeat (first | apply Kd.R_alloc | apply Kd.R_drewN | apply Kd.R_drew)); exact Kd.R_mono HO_7.out (fun _ hk => ⟨hk.2.2, ⟨hk.1, hk.2.1⟩⟩))⟩; have n3_ : Aside0 (Kd.R (Kd.int .i64) 3 wr w.heap.size (fun k_ => some k_ ≠ (.slice (some ad388) t382.length co20 : Value).ownBlock ∧ some k_ ≠ (.slice (some ad389) x6_1.length co31 : Value).ownBlock ∧ some k_ ≠ (v380 : Value).ownBlock) v386 t385) := ⟨by rw [← hq_]; exact (by (with_reducible repeat (first | apply Kd.R_alloc | apply Kd.R_drewN | apply Kd.R_drew)); exact Kd.R_mono HO_9.out (fun _ hk => ⟨hk.2.2, ⟨hk.1, hk.2.1⟩⟩))⟩; have n4_ : Aside0 (wr.heap[gb372]? = some (.cells #[.int .i64 a0_0, .slice A0_1 l0_1.length c0_1, .slice A0_2 l0_2.length c0_2] 27 (0, 0))) := ⟨by rw [← hq_]; exact (zq1 BK372)⟩; have n5_ : Aside0 (wr.heap[gb373]? = some (.cells #[.int .i64 a1_0, .slice A1_1 l1_1.length c1_1, .slice A1_2 l1_2.length c1_2] 27 (0, 0))) := ⟨by rw [← hq_]; exact (zq1 BK373)⟩; have n6_ : Aside0 (wr.heap[gb374]? = some (.cells #[.int .i64 0, .slice none 0 0, .slice none 0 0] 27 (0, 0))) := ⟨by rw [← hq_]; exact (zq1 BK374)⟩; have n7_ : Aside0 (Below w.heap.size w wr) := ⟨by rw [← hq_]; exact (zb1 HB)⟩; clear HO_27 HO_6 HO_7 HO_9 BK372 BK373 BK374 HB hq_; have HO_27 := n0_; have HO_6 := n1_; have HO_7 := n2_; have HO_9 := n3_; have BK372 := n4_; have BK373 := n5_; have BK374 := n6_; have HB := n7_; clear n0_ n1_ n2_ n3_ n4_ n5_ n6_ n7_)); have p26 : 0 ≤ (x29_1 : Int) := of_decide_eq_true (by first | (with_reducible assumption) | assumption); have q26 : (x29_1 : Int) < ((x6_1.length : Int) : Int) := of_decide_eq_true (by first | (with_reducible assumption) | assumption); obtain ⟨go26, co26, eo26, gb26, gl26, cl26, HG26⟩ := Kd.R_form HO_6.out (by omega); (first | cases eo26 | (injection eo26 with ea_ en_ ec_; (first | subst ea_ | (injection ea_ with ea_; subst ea_)); subst ec_; clear en_)); have GB26 := Aside0.mk gb26; have GG26 := Aside0.mk HG26; clear gb26 gl26 HG26; (first | simp only [add_plain] at hx389_0 | skip); obtain ⟨hx26_0, hf26_0⟩ := Kd.R_celln 0 HO_6.out (x29_1 : Int) p26 q26; replace p26 := eq_true p26; replace q26 := eq_true q26; obtain ⟨hy32_, hz32_⟩ := Kd.R_celln 0 HO_6.out (x29_1 : Int) (of_decide_eq_true (by first | (with_reducible assumption) | assumption)) (of_decide_eq_true (by first | (with_reducible assumption) | assumption)); have HP32 := Kd.R_putg HO_6.out (x29_1 : Int) t390) | ((with_reducible refine gate_store (t := 3) (p := 42) rfl ?_); refine store_event (t := 3) (p := 42) (v := ?vo_w33) (w1 := (wr.setCell ⟨go26, (x29_1 : Int).toNat, none⟩ (.int .i64 t390))) ?hg ?ho ?hn ?hr ?_; (case ho => rfl); (case hg => rfl); (case hn => rfl); (case hr => first | (go_simp; done) | (go_simp; rfl)); intro w33 hw; have hg : wr.grownBy w33 (some go26) := (by rw [hw]; exact HP32.2); have hp_ : Kd.R (Kd.int .i64) 3 w33 w.heap.size (fun k_ => some k_ ≠ (.slice (some ad388) t382.length co20 : Value).ownBlock ∧ some k_ ≠ (v380 : Value).ownBlock ∧ some k_ ≠ (v386 : Value).ownBlock) (.slice (some ⟨go26, 0, none⟩) x6_1.length co31) y391 := (by rw [hw, Ny391.out]; exact HP32.1); clear HP32; replace HO_7 := Aside0.mk (Kd.R_after (v := (.slice (some ⟨go26, 0, none⟩) x6_1.length co31)) (v1 := (.slice (some ⟨go26, 0, none⟩) x6_1.length co31)) (ok := (fun k_ => some k_ ≠ (v386 : Value).ownBlock ∧ some k_ ≠ (.slice (some ad388) t382.length co20 : Value).ownBlock)) (by (with_reducible repeat (first | apply Kd.R_alloc | apply Kd.R_drewN | apply Kd.R_drew)); exact Kd.R_mono HO_7.out (fun _ hk => ⟨⟨hk.2.2, hk.1⟩, hk.2.1⟩)) hg (.inl rfl)); replace HO_9 := Aside0.mk (Kd.R_after (v := (.slice (some ⟨go26, 0, none⟩) x6_1.length co31)) (v1 := (.slice (some ⟨go26, 0, none⟩) x6_1.length co31)) (ok := (fun k_ => some k_ ≠ (v380 : Value).ownBlock ∧ some k_ ≠ (.slice (some ad388) t382.length co20 : Value).ownBlock)) (by (with_reducible repeat (first | apply Kd.R_alloc | apply Kd.R_drewN | apply Kd.R_drew)); exact Kd.R_mono HO_9.out (fun _ hk => ⟨⟨hk.2.2, hk.1⟩, hk.2.1⟩)) hg (.inl rfl)); replace HO_27 := Aside0.mk (Kd.R_after (v := (.slice (some ⟨go26, 0, none⟩) x6_1.length co31)) (v1 := (.slice (some ⟨go26, 0, none⟩) x6_1.length co31)) (ok := (fun k_ => some k_ ≠ (v380 : Value).ownBlock ∧ some k_ ≠ (v386 : Value).ownBlock)) (by (with_reducible repeat (first | apply Kd.R_alloc | apply Kd.R_drewN | apply Kd.R_drew)); exact Kd.R_mono HO_27.out (fun _ hk => ⟨⟨hk.2.1, hk.2.2⟩, hk.1⟩)) hg (.inl rfl)); replace BK372 := Aside0.mk (blk_grown (g := gb372) (o := .cells #[.int .i64 a0_0, .slice A0_1 l0_1.length c0_1, .slice A0_2 l0_2.length c0_2] 27 (0, 0)) (zq1 BK372) hg (Kd.R_ne HO_6.out BK372.out (by decide))); replace BK373 := Aside0.mk (blk_grown (g := gb373) (o := .cells #[.int .i64 a1_0, .slice A1_1 l1_1.length c1_1, .slice A1_2 l1_2.length c1_2] 27 (0, 0)) (zq1 BK373) hg (Kd.R_ne HO_6.out BK373.out (by decide))); replace BK374 := Aside0.mk (blk_grown (g := gb374) (o := .cells #[.int .i64 0, .slice none 0 0, .slice none 0 0] 27 (0, 0)) (zq1 BK374) hg (Kd.R_ne HO_6.out BK374.out (by decide))); replace HO_6 := Aside0.mk (hp_); replace HB := Aside0.mk ((by rw [hw]; exact below_set (HB.out) GB26.out : Below w.heap.size w w33)); clear hg hw hp_))
          replace HO_6 := Aside0.mk (Kd.R_drew HO_6.out); replace HO_7 := Aside0.mk (Kd.R_drew HO_7.out); replace HO_9 := Aside0.mk (Kd.R_drew HO_9.out); replace HO_27 := Aside0.mk (Kd.R_drew HO_27.out); replace BK372 := Aside0.mk (blk_drew BK372.out); replace BK373 := Aside0.mk (blk_drew BK373.out); replace BK374 := Aside0.mk (blk_drew BK374.out); replace HB := Aside0.mk (below_drew1 HB.out)
          obtain ⟨Ao35, co35, eo35⟩ := Kd.R_slice HO_7.out
          (first | subst eo35 | (injection eo35 with f1_ f2_ f3_; have f4_ := f1_.symm; have f5_ := f3_.symm; clear f1_ f2_ f3_; subst f4_; subst f5_))
          have p392 : 0 ≤ (x29_1 : Int) := of_decide_eq_true (by first | (with_reducible assumption) | assumption)
          have q392 : x29_1 < (x7_1.length : Int) := of_decide_eq_true (by first | (with_reducible assumption) | assumption)
          obtain ⟨ad392, e392, hx392_0⟩ := Kd.at_int (Kd.R_reads' HO_7.out).2.2 x29_1 p392 q392
          cases e392
          replace p392 := eq_true p392
          replace q392 := eq_true q392
          obtain ⟨Ao36, co36, eo36⟩ := Kd.R_slice HO_9.out
          (first | subst eo36 | (injection eo36 with f1_ f2_ f3_; have f4_ := f1_.symm; have f5_ := f3_.symm; clear f1_ f2_ f3_; subst f4_; subst f5_))
          have p393 : 0 ≤ (x29_1 : Int) := of_decide_eq_true (by first | (with_reducible assumption) | assumption)
          have q393 : x29_1 < (t385.length : Int) := of_decide_eq_true (by first | (with_reducible assumption) | assumption)
          obtain ⟨ad393, e393, hx393_0⟩ := Kd.at_int (Kd.R_reads' HO_9.out).2.2 x29_1 p393 q393
          cases e393
          replace p393 := eq_true p393
          replace q393 := eq_true q393
          refine start_ (n := 13) (S := fun w' => w'.cell? (ad392.add (x29_1).toNat) = some (.int .i64 (rd x7_1 x29_1)) ∧ w'.cell? (ad393.add (x29_1).toNat) = some (.int .i64 (rd t385 x29_1))) (ds := [12]) #[false, false, false, false, false, false, false, false, false, false, false, false, false] (by kernel_rfl) rfl rfl ⟨hx392_0, hx393_0⟩ (fun hHeld => ?_); refine with_tabW spec_HullOfBoxes.tab9 spec_HullOfBoxes.bits9 (fun HT_ HW_ => ?_)
          generalize w33.drew = w34 at HO_6 HO_7 HO_9 HO_27 BK372 BK373 BK374 HB hx392_0 hx393_0 hHeld ⊢
          refine zp (i := 0) (N := some 43) #[true, false, false, false, false, false, false, false, false, false, false, false, false] (any_of HT_.out (by kernel_rfl)) ?_
          refine zp (i := 1) (N := some 44) #[true, true, false, false, false, false, false, false, false, false, false, false, false] (any_of HT_.out (by kernel_rfl)) ?_
          refine zp (i := 2) (N := some 45) #[true, true, true, false, false, false, false, false, false, false, false, false, false] (any_of HT_.out (by kernel_rfl)) ?_
          refine zp (i := 3) (N := some 46) #[true, true, true, true, false, false, false, false, false, false, false, false, false] (any_of HT_.out (by kernel_rfl)) ?_
          refine zp (i := 4) (N := some 47) #[true, true, true, true, true, false, false, false, false, false, false, false, false] (any_of HT_.out (by kernel_rfl)) ?_
          refine zp (i := 6) (N := some 49) #[true, true, true, true, true, false, true, false, false, false, false, false, false] (any_of HT_.out (by kernel_rfl)) ?_
          refine zp (i := 7) (N := some 50) #[true, true, true, true, true, false, true, true, false, false, false, false, false] (any_of HT_.out (by kernel_rfl)) ?_
          refine zp (i := 8) (N := some 51) #[true, true, true, true, true, false, true, true, true, false, false, false, false] (any_of HT_.out (by kernel_rfl)) ?_
          refine take_ (i := 5) (N := some 48) (v := ?_) (a' := ?_) #[true, true, true, true, true, true, true, true, true, false, false, false, false] rfl rfl (take_ofW HT_.out HW_.out (by kernel_rfl)) (fun _ _ _ h => h) (Or.inl ⟨by rfl, ?_⟩) hHeld ?_ ?_
          rotate_left
          ·
           rintro w' ⟨s0, s1⟩
           go_simp
           with_reducible rfl
          rotate_left
          ·
           simp only [Act.put, List.setIfInBounds_toArray, List.set_cons_zero, List.set_cons_succ, i64_w, i32_w]
           rfl
          refine take_ (i := 9) (N := some 52) (v := ?_) (a' := ?_) #[true, true, true, true, true, true, true, true, true, true, false, false, false] rfl rfl (take_ofW HT_.out HW_.out (by kernel_rfl)) (fun _ _ _ h => h) (Or.inl ⟨by rfl, ?_⟩) hHeld ?_ ?_
          rotate_left
          ·
           rintro w' ⟨s0, s1⟩
           go_simp
           with_reducible rfl
          rotate_left
          ·
           simp only [Act.put, List.setIfInBounds_toArray, List.set_cons_zero, List.set_cons_succ, i64_w, i32_w]
           rfl
          refine one_ (i := 10) (N := some 53) #[true, true, true, true, true, true, true, true, true, true, true, false, false] rfl rfl (one_of HT_.out (by kernel_rfl)) (by decide) (fun K hK => ?_)
          refine goes_ Try.func84 (by kernel_rfl) rfl #[.int .i64 (rd x7_1 x29_1), .int .i64 (rd t385 x29_1)] (by rfl) rfl rfl zq6 ?_
          with_reducible refine (spec_l1Most.calls (rd x7_1 x29_1) (rd t385 x29_1) t394 _ A29.out).mono ?_
          rintro e w' ⟨rfl, ⟨nd, rfl⟩⟩
          refine ⟨_, rfl, ?_⟩
          have p30 : 0 ≤ (x29_1 : Int) := of_decide_eq_true (by first | (with_reducible assumption) | assumption)
          have q30 : (x29_1 : Int) < ((x7_1.length : Int) : Int) := of_decide_eq_true (by first | (with_reducible assumption) | assumption)
          obtain ⟨go30, co30, eo30, gb30, gl30, cl30, HG30⟩ := Kd.R_form HO_7.out (by omega)
          (first | cases eo30 | (injection eo30 with ea_ en_ ec_; (first | subst ea_ | (injection ea_ with ea_; subst ea_)); subst ec_; clear en_))
          have GB30 := Aside0.mk gb30
          have GG30 := Aside0.mk HG30
          clear gb30 gl30 HG30
          (first | simp only [add_plain] at hx392_0 | skip)
          obtain ⟨hx30_0, hf30_0⟩ := Kd.R_celln 0 HO_7.out (x29_1 : Int) p30 q30
          replace p30 := eq_true p30
          replace q30 := eq_true q30
          have HP37 := Kd.R_putn HO_7.out (x29_1 : Int) t394
          rw [← Ny395.out] at HP37
          have HQ37 := Aside0.mk HP37
          clear HP37
          refine hK.out _ _ ⟨hHeld.1, hHeld.2⟩ (fun hHeld => ?_)
          clear hK K
          refine norm_ (a' := ?_) ?_ ?_
          rotate_left
          ·
           show Act.put _ (some 53) _ = _
           simp only [Act.put, List.setIfInBounds_toArray, List.set_cons_zero, List.set_cons_succ, i64_w, i32_w]; rfl
          refine zp (i := 11) (N := some 54) #[true, true, true, true, true, true, true, true, true, true, true, true, false] (any_of HT_.out (by kernel_rfl)) ?_
          refine last_ (i := 12) (N := none) #[true, true, true, true, true, true, true, true, true, true, true, true, true] rfl rfl (one_of HT_.out (by kernel_rfl)) (by decide) (fun K hK => ?_)
          refine skip_ (w1 := ?_) (by rfl) rfl ?_ ?_
          rotate_left
          ·
           go_simp
           rfl
          refine hK.out _ _ ?_
          clear hK K
          refine done_ (done_of HT_.out (by kernel_rfl)) ?_
          try go_wp2
          go_roundg k1
          case measure => have := HK1.out; omega
          case rel => exact ⟨(y391), (y395), (wrap64 (x29_1 + 1)), (by first | rfl | (simp; done) | (simp [*]; done)), H', ⟨by have := HK1.out; omega⟩, ⟨by (with_reducible repeat (first | apply Kd.R_alloc | apply Kd.R_drewN | apply Kd.R_drew)); exact Kd.R_mono (Kd.R_far (p := ⟨go30, (x29_1 : Int).toNat, none⟩) (Kd.R_mono HO_6.out (fun k_ hk => (⟨hk, fun e_ => hk.2.1 (by rw [e_]; rfl)⟩ : _ ∧ k_ ≠ go30))) (fun _ hk => hk.2) (.int .i64 t394)) (fun _ hk => ⟨hk.1.2.1, ⟨hk.1.2.2, hk.1.1⟩⟩)⟩, ⟨by (with_reducible repeat (first | apply Kd.R_alloc | apply Kd.R_drewN | apply Kd.R_drew)); exact Kd.R_mono HQ37.out (fun _ hk => ⟨hk.2, ⟨hk.1.1, hk.1.2⟩⟩)⟩, ⟨by (with_reducible repeat (first | apply Kd.R_alloc | apply Kd.R_drewN | apply Kd.R_drew)); exact Kd.R_mono (Kd.R_far (p := ⟨go30, (x29_1 : Int).toNat, none⟩) (Kd.R_mono HO_9.out (fun k_ hk => (⟨hk, fun e_ => hk.1.1 (by rw [e_]; rfl)⟩ : _ ∧ k_ ≠ go30))) (fun _ hk => hk.2) (.int .i64 t394)) (fun _ hk => ⟨hk.1.2, ⟨hk.1.1.1, hk.1.1.2⟩⟩)⟩, ⟨by (with_reducible repeat (first | apply Kd.R_alloc | apply Kd.R_drewN | apply Kd.R_drew)); exact Kd.R_mono (Kd.R_far (p := ⟨go30, (x29_1 : Int).toNat, none⟩) (Kd.R_mono HO_27.out (fun k_ hk => (⟨hk, fun e_ => hk.1.1 (by rw [e_]; rfl)⟩ : _ ∧ k_ ≠ go30))) (fun _ hk => hk.2) (.int .i64 t394)) (fun _ hk => ⟨hk.1.2, ⟨hk.1.1.1, hk.1.1.2⟩⟩)⟩, ⟨by (with_reducible repeat (first | refine blk_drewN ?_ _ | refine blk_drew ?_ | refine blk_alloc ?_ _)); refine blk_far ?_ (by have h_ := Kd.R_ne HO_7.out BK372.out (by decide); intro e_; exact h_ (by rw [e_]; rfl)) _; (with_reducible repeat (first | refine blk_drewN ?_ _ | refine blk_drew ?_ | refine blk_alloc ?_ _)); exact BK372.out⟩, ⟨by (with_reducible repeat (first | refine blk_drewN ?_ _ | refine blk_drew ?_ | refine blk_alloc ?_ _)); refine blk_far ?_ (by have h_ := Kd.R_ne HO_7.out BK373.out (by decide); intro e_; exact h_ (by rw [e_]; rfl)) _; (with_reducible repeat (first | refine blk_drewN ?_ _ | refine blk_drew ?_ | refine blk_alloc ?_ _)); exact BK373.out⟩, ⟨by (with_reducible repeat (first | refine blk_drewN ?_ _ | refine blk_drew ?_ | refine blk_alloc ?_ _)); refine blk_far ?_ (by have h_ := Kd.R_ne HO_7.out BK374.out (by decide); intro e_; exact h_ (by rw [e_]; rfl)) _; (with_reducible repeat (first | refine blk_drewN ?_ _ | refine blk_drew ?_ | refine blk_alloc ?_ _)); exact BK374.out⟩, ⟨(zb1 HB)⟩⟩
         ·
          rw [if_neg c28] at H
          exact absurd H (by simp)
        ·
         rw [if_neg c27] at H
         exact absurd H (by simp)
       ·
        rw [if_neg c24] at H
        exact absurd H (by simp)
      ·
       rw [if_neg c23] at H
       exact absurd H (by simp)
     ·
      rw [if_neg c22] at H
      exact absurd H (by simp)
    ·
     rw [if_neg c21] at H
     have c21b0 : decide (x29_1 < (t382.length : Int)) = false := decide_eq_false c21
     clear c21
     replace H := Option.bind_eq_some_iff.mp H
     obtain ⟨⟨t396, t397, t400, t403⟩, A380, H⟩ := H
     replace H : (some (t396, t397, t400, t403)) = some (r1, r2, r3, r4) := H
     have A38 := Aside0.mk A380
     clear A380
     simp only [Option.some.injEq, Prod.mk.injEq] at H
     obtain ⟨rfl, rfl, rfl, rfl⟩ := H
     obtain ⟨Ao39, co39, eo39⟩ := Kd.R_slice HO_6.out
     subst eo39
     obtain ⟨Ao40, co40, eo40⟩ := Kd.R_slice HO_7.out
     subst eo40
     go_wp2_with (first | ((with_reducible refine gate_callee (f := 71) rfl ?_); refine goesL_ (some 58) rfl rfl Try.func71 (by kernel_rfl) rfl #[.int .i64 8, .slice Ao39 x6_1.length co39, .slice Ao40 x7_1.length co40] rfl zq6 ?_; (with_reducible refine (spec_bxMake.calls k1 8 _ _ x6_1 _ _ x7_1 t396 t397 t400 t403 _ ?side1 ?side2 ?side3 ?side4 A38.out).mono ?_); (case side1 => repeat (first | exact (Kd.R_reads' HO_6.out).2.2 | (with_reducible refine Kd.C_alloc ?_ _) | (with_reducible refine Kd.C_drewN ?_ _) | (with_reducible refine Kd.C_drew ?_))); (case side2 => exact (Kd.R_reads' HO_6.out).2.1); (case side3 => repeat (first | exact (Kd.R_reads' HO_7.out).2.2 | (with_reducible refine Kd.C_alloc ?_ _) | (with_reducible refine Kd.C_drewN ?_ _) | (with_reducible refine Kd.C_drew ?_))); (case side4 => exact (Kd.R_reads' HO_7.out).2.1); rintro e w41 ⟨v398, v401, rfl, ho0, ho1, hb⟩; refine ⟨_, rfl, ?_⟩; have HO399 := Aside0.mk (Kd.R_lower (Kd.R_new' (Kd.R_new' (Kd.R_new' (Kd.R_new' ho0 (Kd.R_lt (zq3 HO_6))) (Kd.R_lt (zq3 HO_7))) (Kd.R_lt (zq3 HO_9))) (Kd.R_lt (zq3 HO_27))) (below_size (zb1 HB))); have HO402 := Aside0.mk (Kd.R_lower (Kd.R_new' (Kd.R_new' (Kd.R_new' (Kd.R_new' ho1 (Kd.R_lt (zq3 HO_6))) (Kd.R_lt (zq3 HO_7))) (Kd.R_lt (zq3 HO_9))) (Kd.R_lt (zq3 HO_27))) (below_size (zb1 HB))); replace HO_6 := Aside0.mk (Kd.R_mono (Kd.R_told (Kd.R_told (Kd.R_old (zq3 HO_6) hb) (Kd.R_base ho0)) (Kd.R_base ho1)) (fun _ h_ => h_.1)); replace HO_7 := Aside0.mk (Kd.R_mono (Kd.R_told (Kd.R_told (Kd.R_old (zq3 HO_7) hb) (Kd.R_base ho0)) (Kd.R_base ho1)) (fun _ h_ => h_.1)); replace HO_9 := Aside0.mk (Kd.R_mono (Kd.R_told (Kd.R_told (Kd.R_old (zq3 HO_9) hb) (Kd.R_base ho0)) (Kd.R_base ho1)) (fun _ h_ => h_.1)); replace HO_27 := Aside0.mk (Kd.R_mono (Kd.R_told (Kd.R_told (Kd.R_old (zq3 HO_27) hb) (Kd.R_base ho0)) (Kd.R_base ho1)) (fun _ h_ => h_.1)); replace BK372 := Aside0.mk (zbb BK372 hb); replace BK373 := Aside0.mk (zbb BK373 hb); replace BK374 := Aside0.mk (zbb BK374 hb); replace HB := Aside0.mk (below_step (zb1 HB) hb); (try clear hb); (try clear hb2); (try clear hk); (try clear hi); (try clear ho0); (try clear ho1); have hnb42 := NB374_372.out; have hnc42 := NB372_374.out; have hnb43 := NB374_373.out; have hnc43 := NB373_374.out; have hcz44_0 : w41.cell? ⟨gb374, 0, none⟩ = some (.int .i64 0) := zc BK374 0; have hcz44_1 : w41.cell? ⟨gb374, 1, none⟩ = some (.slice none 0 0) := zc BK374 1; have hcz44_2 : w41.cell? ⟨gb374, 2, none⟩ = some (.slice none 0 0) := zc BK374 2; have hfz44_0 := blk_frozen BK374.out 0; have hfz44_1 := blk_frozen BK374.out 1; have hfz44_2 := blk_frozen BK374.out 2; obtain ⟨Ao45, co45, eo45⟩ := Kd.R_slice HO399.out; subst eo45; obtain ⟨Ao46, co46, eo46⟩ := Kd.R_slice HO402.out; subst eo46))
     refine bodyPost_ret (results_ct rfl _ _ gb374 27 #[.int .i64 t396, .slice Ao45 t397.length co45, .slice Ao46 t400.length co46] (0, 0) _ rfl (by (with_reducible repeat (first | refine blk_drewN ?_ _ | refine blk_drew ?_ | refine blk_alloc ?_ _)); refine blk_put (cs := #[.int .i64 t396, .slice Ao45 t397.length co45, .slice none 0 0]) ?_ 2 _ rfl; (with_reducible repeat (first | refine blk_drewN ?_ _ | refine blk_drew ?_ | refine blk_alloc ?_ _)); refine blk_put (cs := #[.int .i64 t396, .slice none 0 0, .slice none 0 0]) ?_ 1 _ rfl; (with_reducible repeat (first | refine blk_drewN ?_ _ | refine blk_drew ?_ | refine blk_alloc ?_ _)); refine blk_put (cs := #[.int .i64 0, .slice none 0 0, .slice none 0 0]) ?_ 0 _ rfl; (with_reducible repeat (first | refine blk_drewN ?_ _ | refine blk_drew ?_ | refine blk_alloc ?_ _)); exact BK374.out) Try.underlying27 rfl (by kernel_rfl)) rfl ?_
     exact ⟨_, _, by first | rfl | (simp [errW_none, errW_some] <;> rfl) | (simp [*, errW_none, errW_some] <;> rfl), by (with_reducible repeat (first | apply Kd.R_alloc | apply Kd.R_drewN | apply Kd.R_drew)); exact Kd.R_mono (Kd.R_far (p := ⟨gb374, 2, none⟩) (Kd.R_far (p := ⟨gb374, 1, none⟩) (Kd.R_far (p := ⟨gb374, 0, none⟩) (Kd.R_types HO399.out BK374.out (by decide)) (fun _ hk => hk.2) (.int .i64 t396)) (fun _ hk => hk.2) (.slice Ao45 t397.length co45)) (fun _ hk => hk.2) (.slice Ao46 t400.length co46)) (fun _ hk => hk.1.1.1.1.1), by (with_reducible repeat (first | apply Kd.R_alloc | apply Kd.R_drewN | apply Kd.R_drew)); exact Kd.R_mono (Kd.R_far (p := ⟨gb374, 2, none⟩) (Kd.R_far (p := ⟨gb374, 1, none⟩) (Kd.R_far (p := ⟨gb374, 0, none⟩) (Kd.R_types HO402.out BK374.out (by decide)) (fun _ hk => hk.2) (.int .i64 t396)) (fun _ hk => hk.2) (.slice Ao45 t397.length co45)) (fun _ hk => hk.2) (.slice Ao46 t400.length co46)) (fun _ hk => hk.1.1.1.1.1), (zb1 HB)⟩
 ·
  replace c4 := Bool.eq_false_iff.mpr c4
  subst c4
  have H1 : (some (0, ([] : List Int), ([] : List Int), false)) = some (r1, r2, r3, r4) := by rw [if_neg (show ¬ (false = true) by decide)] at H; exact H
  clear H
  have H := H1
  clear H1
  simp only [Option.some.injEq, Prod.mk.injEq] at H
  obtain ⟨rfl, rfl, rfl, rfl⟩ := H
  go_enter Try.func41, Try.ntmps41
  go_wp2_with (first | ((with_reducible refine gate_dst (N := 2) rfl ?_); refine zbe (N := 2) (cs := #[.int .i64 a0_0, .slice A0_1 l0_1.length c0_1, .slice A0_2 l0_2.length c0_2]) (t := 27) ?_; intro gb372 hg w47 hbox hb; have BK372 := Aside0.mk (hbox); have GW372 := Aside0.mk (zge (zb0 HB) hg); have GE372 := GW372; replace HB := Aside0.mk (below_step (zb0 HB) hb); clear hb hbox hg) | ((with_reducible refine gate_dst (N := 3) rfl ?_); refine zbe (N := 3) (cs := #[.int .i64 a1_0, .slice A1_1 l1_1.length c1_1, .slice A1_2 l1_2.length c1_2]) (t := 27) ?_; intro gb373 hg w48 hbox hb; have BK373 := Aside0.mk (hbox); have GW373 := Aside0.mk (zge (zb1 HB) hg); have GE373 := GW373; have NB372_373 := Aside0.mk (zlt BK372 hg); have NB373_372 := Aside0.mk (zgt BK372 hg); replace BK372 := Aside0.mk (zbb BK372 hb); replace HB := Aside0.mk (below_step (zb1 HB) hb); clear hb hbox hg) | ((with_reducible refine gate_dst (N := 4) rfl ?_); refine zbe (N := 4) (cs := #[.int .i64 0, .slice none 0 0, .slice none 0 0]) (t := 27) ?_; intro gb374 hg w49 hbox hb; have BK374 := Aside0.mk (hbox); have GW374 := Aside0.mk (zge (zb1 HB) hg); have GE374 := GW374; have NB372_374 := Aside0.mk (zlt BK372 hg); have NB374_372 := Aside0.mk (zgt BK372 hg); have NB373_374 := Aside0.mk (zlt BK373 hg); have NB374_373 := Aside0.mk (zgt BK373 hg); replace BK372 := Aside0.mk (zbb BK372 hb); replace BK373 := Aside0.mk (zbb BK373 hb); replace HB := Aside0.mk (below_step (zb1 HB) hb); clear hb hbox hg; have hnb50 := NB372_373.out; have hnc50 := NB373_372.out; have hnb51 := NB372_374.out; have hnc51 := NB374_372.out; have hcz52_0 : w49.cell? ⟨gb372, 0, none⟩ = some (.int .i64 a0_0) := zc BK372 0; have hcz52_1 : w49.cell? ⟨gb372, 1, none⟩ = some (.slice A0_1 l0_1.length c0_1) := zc BK372 1; have hcz52_2 : w49.cell? ⟨gb372, 2, none⟩ = some (.slice A0_2 l0_2.length c0_2) := zc BK372 2; have hfz52_0 := blk_frozen BK372.out 0; have hfz52_1 := blk_frozen BK372.out 1; have hfz52_2 := blk_frozen BK372.out 2; have hnb53 := NB373_374.out; have hnc53 := NB374_373.out; have hcz54_0 : w49.cell? ⟨gb373, 0, none⟩ = some (.int .i64 a1_0) := zc BK373 0; have hcz54_1 : w49.cell? ⟨gb373, 1, none⟩ = some (.slice A1_1 l1_1.length c1_1) := zc BK373 1; have hcz54_2 : w49.cell? ⟨gb373, 2, none⟩ = some (.slice A1_2 l1_2.length c1_2) := zc BK373 2; have hfz54_0 := blk_frozen BK373.out 0; have hfz54_1 := blk_frozen BK373.out 1; have hfz54_2 := blk_frozen BK373.out 2) | ((with_reducible refine gate_callee (f := 60) rfl ?_); refine goesL_ (some 14) rfl rfl Try.func60 (by kernel_rfl) rfl #[.agg #[.int .i64 a0_0, .slice A0_1 l0_1.length c0_1, .slice A0_2 l0_2.length c0_2], .agg #[.int .i64 a1_0, .slice A1_1 l1_1.length c1_1, .slice A1_2 l1_2.length c1_2]] rfl zq6 ?_; (with_reducible refine (spec_bxTwo.calls k a0_0 _ _ l0_1 _ _ l0_2 a1_0 _ _ l1_1 _ _ l1_2 false _ ?side1 ?side2 ?side3 ?side4 ?side5 ?side6 ?side7 ?side8 A3.out).mono ?_); (case side1 => repeat (first | exact (Kd.C_below HR0_1.out HB.out) | (with_reducible refine Kd.C_alloc ?_ _) | (with_reducible refine Kd.C_drewN ?_ _) | (with_reducible refine Kd.C_drew ?_))); (case side2 => exact HC0_1.out); (case side3 => repeat (first | exact (Kd.C_below HR0_2.out HB.out) | (with_reducible refine Kd.C_alloc ?_ _) | (with_reducible refine Kd.C_drewN ?_ _) | (with_reducible refine Kd.C_drew ?_))); (case side4 => exact HC0_2.out); (case side5 => repeat (first | exact (Kd.C_below HR1_1.out HB.out) | (with_reducible refine Kd.C_alloc ?_ _) | (with_reducible refine Kd.C_drewN ?_ _) | (with_reducible refine Kd.C_drew ?_))); (case side6 => exact HC1_1.out); (case side7 => repeat (first | exact (Kd.C_below HR1_2.out HB.out) | (with_reducible refine Kd.C_alloc ?_ _) | (with_reducible refine Kd.C_drewN ?_ _) | (with_reducible refine Kd.C_drew ?_))); (case side8 => exact HC1_2.out); rintro e w55 ⟨rfl, hb⟩; refine ⟨_, rfl, ?_⟩; replace BK372 := Aside0.mk (zbb BK372 hb); replace BK373 := Aside0.mk (zbb BK373 hb); replace BK374 := Aside0.mk (zbb BK374 hb); replace HB := Aside0.mk (below_step (zb1 HB) hb); (try clear hb); (try clear hb2); (try clear hk); (try clear hi); have hcz56_0 : w55.cell? ⟨gb374, 0, none⟩ = some (.int .i64 0) := zc BK374 0; have hcz56_1 : w55.cell? ⟨gb374, 1, none⟩ = some (.slice none 0 0) := zc BK374 1; have hcz56_2 : w55.cell? ⟨gb374, 2, none⟩ = some (.slice none 0 0) := zc BK374 2; have hfz56_0 := blk_frozen BK374.out 0; have hfz56_1 := blk_frozen BK374.out 1; have hfz56_2 := blk_frozen BK374.out 2))
  refine bodyPost_ret (results_ct rfl _ _ gb374 27 #[.int .i64 0, .slice none 0 0, .slice none 0 0] (0, 0) _ rfl (by (with_reducible repeat (first | refine blk_drewN ?_ _ | refine blk_drew ?_ | refine blk_alloc ?_ _)); refine blk_put (cs := #[.int .i64 0, .slice none 0 0, .slice none 0 0]) ?_ 2 _ rfl; (with_reducible repeat (first | refine blk_drewN ?_ _ | refine blk_drew ?_ | refine blk_alloc ?_ _)); refine blk_put (cs := #[.int .i64 0, .slice none 0 0, .slice none 0 0]) ?_ 1 _ rfl; (with_reducible repeat (first | refine blk_drewN ?_ _ | refine blk_drew ?_ | refine blk_alloc ?_ _)); refine blk_put (cs := #[.int .i64 0, .slice none 0 0, .slice none 0 0]) ?_ 0 _ rfl; (with_reducible repeat (first | refine blk_drewN ?_ _ | refine blk_drew ?_ | refine blk_alloc ?_ _)); exact BK374.out) Try.underlying27 rfl (by kernel_rfl)) rfl ?_
  exact ⟨_, _, by first | rfl | (simp [errW_none, errW_some] <;> rfl) | (simp [*, errW_none, errW_some] <;> rfl), by first | exact Kd.R_nil _ _ _ _ _ | exact Kd.N_nil _ _ _ _ _ | exact Kd.V_nil _ _ _ _ _ | exact Kd.Q_nil _ _ _ _ _ | exact Kd.S_nil _ _ _ _ _, by first | exact Kd.R_nil _ _ _ _ _ | exact Kd.N_nil _ _ _ _ _ | exact Kd.V_nil _ _ _ _ _ | exact Kd.Q_nil _ _ _ _ _ | exact Kd.S_nil _ _ _ _ _, (zb1 HB)⟩
end Go.Proofs.Ytgaoniapddpaaaa.PD
