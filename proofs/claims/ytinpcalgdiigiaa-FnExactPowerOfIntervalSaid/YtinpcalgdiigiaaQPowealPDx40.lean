-- By wip/mk/drv.py
import Derived.Test.YtinpcalgdiigiaaQPowealPDx0
import Derived.Test.YtinpcalgdiigiaaQPowealPDx1
import Derived.Test.YtinpcalgdiigiaaQPowealPDx3
import Derived.Test.YtinpcalgdiigiaaQPowealPDx39
namespace Go.Proofs.Ytinpcalgdiigiaa.PD
open Go.RowKit Go.Proofs.YtinpcalgdiigiaaW.PrintWords Go.Proofs.YtinpcalgdiigiaaW.PrintLast Go.Proofs.YtinpcalgdiigiaaW.PrintMore
attribute [local go_sem] max2_int min2_int max_two min_two max_three min_three max_four min_four
set_option linter.unusedVariables false
set_option linter.unusedSimpArgs false
/-! ### impl_roundDown: function 85 -/
set_option maxHeartbeats 8000000 in
set_option maxRecDepth 100000 in
theorem impl_roundDown.calls (k : Nat) (a0_0 : Int) (a0_1 : Int) (a1 : Int) (r1 : Int) (r2 : Int) (w : World) (h : impl_roundDown.f k a0_0 a0_1 a1 = some (r1, r2)) :
  Calls Try.prog 85 #[.agg #[.int .i64 a0_0, .int .i64 a0_1], .int .i64 a1] w fun e w' => e = .returned (.agg #[.int .i64 r1, .int .i64 r2]) ∧ Below w.heap.size w w' := by
 have hu27 := Try.underlying27
 have HB := Aside0.mk (Below.refl w.heap.size w)
 have H : (if a0_1 ≤ a1 then (some (a0_0, a0_1)) else (if 0 ≤ (wrap64 (a0_1 - a1)) then ((impl_wideOf.f (shr .i64 a0_0 (wrap64 (a0_1 - a1)))).bind fun bt466 => ((impl_wide_fit.f k bt466.1 bt466.2.1 bt466.2.2 a1).bind fun bt469 => (some (bt469.1, bt469.2.1)))) else (none))) = some (r1, r2) := h
 clear h
 by_cases c3 : a0_1 ≤ a1
 ·
  rw [if_pos c3] at H
  have c3b0 : decide (a0_1 ≤ a1) = true := decide_eq_true c3
  clear c3
  simp only [Option.some.injEq, Prod.mk.injEq] at H
  obtain ⟨rfl, rfl⟩ := H
  go_enter Try.func85, Try.ntmps85
  go_wp2_with (first | ((with_reducible refine gate_dst (N := 2) rfl ?_); refine zbe (N := 2) (cs := #[.int .i64 a0_0, .int .i64 a0_1]) (t := 27) ?_; intro gb464 hg w4 hbox hb; have BK464 := Aside0.mk (hbox); have GW464 := Aside0.mk (zge (zb0 HB) hg); have GE464 := GW464; replace HB := Aside0.mk (below_step (zb0 HB) hb); clear hb hbox hg) | ((with_reducible refine gate_dst (N := 4) rfl ?_); refine zbe (N := 4) (cs := #[.int .i64 0, .int .i64 0]) (t := 27) ?_; intro gb465 hg w5 hbox hb; have BK465 := Aside0.mk (hbox); have GW465 := Aside0.mk (zge (zb1 HB) hg); have GE465 := GW465; have NB464_465 := Aside0.mk (zlt BK464 hg); have NB465_464 := Aside0.mk (zgt BK464 hg); replace BK464 := Aside0.mk (zbb BK464 hb); replace HB := Aside0.mk (below_step (zb1 HB) hb); clear hb hbox hg; have hnb6 := NB464_465.out; have hnc6 := NB465_464.out; have hcz7_0 : w5.cell? ⟨gb464, 0, none⟩ = some (.int .i64 a0_0) := zc BK464 0; have hcz7_1 : w5.cell? ⟨gb464, 1, none⟩ = some (.int .i64 a0_1) := zc BK464 1; have hfz7_0 := blk_frozen BK464.out 0; have hfz7_1 := blk_frozen BK464.out 1; have hcz8_0 : w5.cell? ⟨gb465, 0, none⟩ = some (.int .i64 0) := zc BK465 0; have hcz8_1 : w5.cell? ⟨gb465, 1, none⟩ = some (.int .i64 0) := zc BK465 1; have hfz8_0 := blk_frozen BK465.out 0; have hfz8_1 := blk_frozen BK465.out 1))
  refine bodyPost_ret (results_cell_row rfl _ _ gb465 27 #[.int .i64 a0_0, .int .i64 a0_1] (0, 0) _ rfl (by (with_reducible repeat (first | refine blk_drewN ?_ _ | refine blk_drew ?_ | refine blk_alloc ?_ _)); refine blk_put (cs := #[.int .i64 a0_0, .int .i64 0]) ?_ 1 _ rfl; (with_reducible repeat (first | refine blk_drewN ?_ _ | refine blk_drew ?_ | refine blk_alloc ?_ _)); refine blk_put (cs := #[.int .i64 0, .int .i64 0]) ?_ 0 _ rfl; (with_reducible repeat (first | refine blk_drewN ?_ _ | refine blk_drew ?_ | refine blk_alloc ?_ _)); exact BK465.out) Try.underlying27 rfl (by kernel_rfl)) rfl ?_
  exact ⟨by first | rfl | (simp [errW_none, errW_some] <;> rfl) | (simp [*, errW_none, errW_some] <;> rfl), (zb1 HB)⟩
 ·
  rw [if_neg c3] at H
  have c3b0 : decide (a0_1 ≤ a1) = false := decide_eq_false c3
  clear c3
  obtain ⟨ji9, hji9⟩ : ∃ j_ : Int, (wrap64 (a0_1 - a1)) = j_ := ⟨_, rfl⟩
  replace H : (if 0 ≤ (ji9) then ((impl_wideOf.f (shr .i64 a0_0 (ji9))).bind fun bt466 => ((impl_wide_fit.f k bt466.1 bt466.2.1 bt466.2.2 a1).bind fun bt469 => (some (bt469.1, bt469.2.1)))) else (none)) = some (r1, r2) := by first | (rw [hji9] at H; exact H) | (simp only [hji9] at H ⊢; exact H)
  have hji9w : (IntKind.i64.wrap (a0_1 - a1)) = ji9 := (i64_w _).trans hji9
  by_cases c10 : 0 ≤ (ji9)
  ·
   rw [if_pos c10] at H
   have c10b0 := eq_true c10
   have c10b1 : decide (0 ≤ (ji9)) = true := decide_eq_true c10
   clear c10
   obtain ⟨ji11, hji11⟩ : ∃ j_ : Int, (shr .i64 a0_0 (ji9)) = j_ := ⟨_, rfl⟩
   replace H : ((impl_wideOf.f (ji11)).bind fun bt466 => ((impl_wide_fit.f k bt466.1 bt466.2.1 bt466.2.2 a1).bind fun bt469 => (some (bt469.1, bt469.2.1)))) = some (r1, r2) := by first | (rw [hji11] at H; exact H) | (simp only [hji11] at H ⊢; exact H)
   have hji11_ : (a0_0 / 2 ^ min (ji9).toNat 64) = ji11 := hji11
   have hji11z : (ji9) ≤ 64 → (a0_0 / 2 ^ (ji9).toNat) = ji11 := shr_small hji11
   replace H := Option.bind_eq_some_iff.mp H
   obtain ⟨⟨t466, t467, t468⟩, A120, H⟩ := H
   replace H : ((impl_wide_fit.f k t466 t467 t468 a1).bind fun bt469 => (some (bt469.1, bt469.2.1))) = some (r1, r2) := H
   have A12 := Aside0.mk A120
   clear A120
   replace H := Option.bind_eq_some_iff.mp H
   obtain ⟨⟨t469, t470, t471⟩, A130, H⟩ := H
   replace H : (some (t469, t470)) = some (r1, r2) := H
   have A13 := Aside0.mk A130
   clear A130
   simp only [Option.some.injEq, Prod.mk.injEq] at H
   obtain ⟨rfl, rfl⟩ := H
   go_enter Try.func85, Try.ntmps85
   go_wp2_with (first | ((with_reducible refine gate_dst (N := 2) rfl ?_); refine zbe (N := 2) (cs := #[.int .i64 a0_0, .int .i64 a0_1]) (t := 27) ?_; intro gb464 hg w14 hbox hb; have BK464 := Aside0.mk (hbox); have GW464 := Aside0.mk (zge (zb0 HB) hg); have GE464 := GW464; replace HB := Aside0.mk (below_step (zb0 HB) hb); clear hb hbox hg) | ((with_reducible refine gate_dst (N := 4) rfl ?_); refine zbe (N := 4) (cs := #[.int .i64 0, .int .i64 0]) (t := 27) ?_; intro gb465 hg w15 hbox hb; have BK465 := Aside0.mk (hbox); have GW465 := Aside0.mk (zge (zb1 HB) hg); have GE465 := GW465; have NB464_465 := Aside0.mk (zlt BK464 hg); have NB465_464 := Aside0.mk (zgt BK464 hg); replace BK464 := Aside0.mk (zbb BK464 hb); replace HB := Aside0.mk (below_step (zb1 HB) hb); clear hb hbox hg; have hnb16 := NB464_465.out; have hnc16 := NB465_464.out; have hcz17_0 : w15.cell? ⟨gb464, 0, none⟩ = some (.int .i64 a0_0) := zc BK464 0; have hcz17_1 : w15.cell? ⟨gb464, 1, none⟩ = some (.int .i64 a0_1) := zc BK464 1; have hfz17_0 := blk_frozen BK464.out 0; have hfz17_1 := blk_frozen BK464.out 1) | ((with_reducible refine gate_callee (f := 79) rfl ?_); refine goesL_ (some 20) rfl rfl Try.func79 (by kernel_rfl) rfl #[.int .i64 ji11] rfl (by (try simp only [List.map_toArray, List.map_cons, List.map_nil]); first | done | (simp only [hji11]; rfl) | rfl | (simp only [List.length_drop, List.length_take]; rfl)) ?_; (with_reducible refine (impl_wideOf.calls ji11 t466 t467 t468 _ A12.out).mono ?_); rintro e w18 ⟨rfl, hb⟩; refine ⟨_, rfl, ?_⟩; replace BK464 := Aside0.mk (zbb BK464 hb); replace BK465 := Aside0.mk (zbb BK465 hb); replace HB := Aside0.mk (below_step (zb1 HB) hb); (try clear hb); (try clear hb2); (try clear hk); (try clear hi)) | ((with_reducible refine gate_callee (f := 89) rfl ?_); refine goesL_ (some 22) rfl rfl Try.func89 (by kernel_rfl) rfl #[.agg #[.bool t466, .int .u64 t467, .int .u64 t468], .int .i64 a1] rfl zq6 ?_; (with_reducible refine (impl_wide_fit.calls k t466 t467 t468 a1 t469 t470 t471 _ A13.out).mono ?_); rintro e w19 ⟨rfl, hb⟩; refine ⟨_, rfl, ?_⟩; replace BK464 := Aside0.mk (zbb BK464 hb); replace BK465 := Aside0.mk (zbb BK465 hb); replace HB := Aside0.mk (below_step (zb1 HB) hb); (try clear hb); (try clear hb2); (try clear hk); (try clear hi)) | ((with_reducible refine gate_dst (N := 5) rfl ?_); refine zbe (N := 5) (cs := #[.int .i64 0, .int .i64 0]) (t := 27) ?_; intro gb472 hg w20 hbox hb; have BK472 := Aside0.mk (hbox); have GW472 := Aside0.mk (zge (zb1 HB) hg); have GE472 := GW472; have NB464_472 := Aside0.mk (zlt BK464 hg); have NB472_464 := Aside0.mk (zgt BK464 hg); have NB465_472 := Aside0.mk (zlt BK465 hg); have NB472_465 := Aside0.mk (zgt BK465 hg); replace BK464 := Aside0.mk (zbb BK464 hb); replace BK465 := Aside0.mk (zbb BK465 hb); replace HB := Aside0.mk (below_step (zb1 HB) hb); clear hb hbox hg; have hnb21 := NB472_464.out; have hnc21 := NB464_472.out; have hnb22 := NB472_465.out; have hnc22 := NB465_472.out; have hcz23_0 : w20.cell? ⟨gb472, 0, none⟩ = some (.int .i64 0) := zc BK472 0; have hcz23_1 : w20.cell? ⟨gb472, 1, none⟩ = some (.int .i64 0) := zc BK472 1; have hfz23_0 := blk_frozen BK472.out 0; have hfz23_1 := blk_frozen BK472.out 1; have hcz24_0 : w20.cell? ⟨gb465, 0, none⟩ = some (.int .i64 0) := zc BK465 0; have hcz24_1 : w20.cell? ⟨gb465, 1, none⟩ = some (.int .i64 0) := zc BK465 1; have hfz24_0 := blk_frozen BK465.out 0; have hfz24_1 := blk_frozen BK465.out 1))
   refine bodyPost_ret (results_cell_row rfl _ _ gb465 27 #[.int .i64 t469, .int .i64 t470] (0, 0) _ rfl (by (with_reducible repeat (first | refine blk_drewN ?_ _ | refine blk_drew ?_ | refine blk_alloc ?_ _)); refine blk_put (cs := #[.int .i64 t469, .int .i64 0]) ?_ 1 _ rfl; (with_reducible repeat (first | refine blk_drewN ?_ _ | refine blk_drew ?_ | refine blk_alloc ?_ _)); refine blk_put (cs := #[.int .i64 0, .int .i64 0]) ?_ 0 _ rfl; (with_reducible repeat (first | refine blk_drewN ?_ _ | refine blk_drew ?_ | refine blk_alloc ?_ _)); refine blk_far ?_ NB465_472.out _; (with_reducible repeat (first | refine blk_drewN ?_ _ | refine blk_drew ?_ | refine blk_alloc ?_ _)); refine blk_far ?_ NB465_472.out _; (with_reducible repeat (first | refine blk_drewN ?_ _ | refine blk_drew ?_ | refine blk_alloc ?_ _)); exact BK465.out) Try.underlying27 rfl (by kernel_rfl)) rfl ?_
   exact ⟨by first | rfl | (simp [errW_none, errW_some] <;> rfl) | (simp only [← hji9, ← hji11]; first | rfl | (simp [errW_none, errW_some] <;> rfl)) | (simp [*, errW_none, errW_some] <;> rfl), (zb1 HB)⟩
  ·
   rw [if_neg c10] at H
   exact absurd H (by simp)
end Go.Proofs.Ytinpcalgdiigiaa.PD
