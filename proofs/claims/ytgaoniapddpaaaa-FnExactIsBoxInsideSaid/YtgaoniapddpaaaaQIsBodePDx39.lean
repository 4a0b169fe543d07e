-- By wip/mk/drv.py
import Derived.Test.YtgaoniapddpaaaaQIsBodePDx0
import Derived.Test.YtgaoniapddpaaaaQIsBodePDx1
import Derived.Test.YtgaoniapddpaaaaQIsBodePDx37
import Derived.Test.YtgaoniapddpaaaaQIsBodePDx38
namespace Go.Proofs.Ytgaoniapddpaaaa.PD
open Go.RowKit Go.Proofs.YtgaoniapddpaaaaW.PrintWords Go.Proofs.YtgaoniapddpaaaaW.PrintLast Go.Proofs.YtgaoniapddpaaaaW.PrintMore
attribute [local go_sem] max2_int min2_int max_two min_two max_three min_three max_four min_four
set_option linter.unusedVariables false
set_option linter.unusedSimpArgs false
/-! ### spec_IsBoxInside: function 21 -/
set_option maxHeartbeats 8000000 in
set_option maxRecDepth 100000 in
theorem spec_IsBoxInside.calls (k : Nat) (a0_0 : Int) (A0_1 : Option Addr) (c0_1 : Nat) (l0_1 : List Int) (A0_2 : Option Addr) (c0_2 : Nat) (l0_2 : List Int) (a1_0 : Int) (A1_1 : Option Addr) (c1_1 : Nat) (l1_1 : List Int) (A1_2 : Option Addr) (c1_2 : Nat) (l1_2 : List Int) (r1 : Bool) (r2 : Bool) (w : World) (hr0_1 : Kd.C (Kd.int .i64) w A0_1 l0_1.length l0_1) (hc0_1 : l0_1.length ≤ c0_1) (hr0_2 : Kd.C (Kd.int .i64) w A0_2 l0_2.length l0_2) (hc0_2 : l0_2.length ≤ c0_2) (hr1_1 : Kd.C (Kd.int .i64) w A1_1 l1_1.length l1_1) (hc1_1 : l1_1.length ≤ c1_1) (hr1_2 : Kd.C (Kd.int .i64) w A1_2 l1_2.length l1_2) (hc1_2 : l1_2.length ≤ c1_2) (h : spec_IsBoxInside.f k a0_0 l0_1 l0_2 a1_0 l1_1 l1_2 = some (r1, r2)) :
  Calls Try.prog 21 #[.agg #[.int .i64 a0_0, .slice A0_1 l0_1.length c0_1, .slice A0_2 l0_2.length c0_2], .agg #[.int .i64 a1_0, .slice A1_1 l1_1.length c1_1, .slice A1_2 l1_2.length c1_2]] w fun e w' => e = .returned (.tuple #[.bool r1, .bool r2]) ∧ Below w.heap.size w w' := by
 have hu27 := Try.underlying27
 have HR0_1 := Aside0.mk hr0_1
 have HC0_1 := Aside0.mk hc0_1
 clear hr0_1 hc0_1
 have HR0_2 := Aside0.mk hr0_2
 have HC0_2 := Aside0.mk hc0_2
 clear hr0_2 hc0_2
 have HR1_1 := Aside0.mk hr1_1
 have HC1_1 := Aside0.mk hc1_1
 clear hr1_1 hc1_1
 have HR1_2 := Aside0.mk hr1_2
 have HC1_2 := Aside0.mk hc1_2
 clear hr1_2 hc1_2
 have HB := Aside0.mk (Below.refl w.heap.size w)
 have H : ((spec_bxTwo.f k a0_0 l0_1 l0_2 a1_0 l1_1 l1_2).bind fun t536 => (if t536 = true then ((spec_bxIn.f k a0_0 l0_1 l0_2 a1_0 l1_1 l1_2).bind fun t537 => (some (t537, true))) else (some (false, false)))) = some (r1, r2) := h
 clear h
 replace H := Option.bind_eq_some_iff.mp H
 obtain ⟨t536, A30, H⟩ := H
 replace H : (if t536 = true then ((spec_bxIn.f k a0_0 l0_1 l0_2 a1_0 l1_1 l1_2).bind fun t537 => (some (t537, true))) else (some (false, false))) = some (r1, r2) := H
 have A3 := Aside0.mk A30
 clear A30
 by_cases c4 : t536 = true
 ·
  subst c4
  have H1 : ((spec_bxIn.f k a0_0 l0_1 l0_2 a1_0 l1_1 l1_2).bind fun t537 => (some (t537, true))) = some (r1, r2) := by rw [if_pos rfl] at H; exact H
  clear H
  have H := H1
  clear H1
  replace H := Option.bind_eq_some_iff.mp H
  obtain ⟨t537, A50, H⟩ := H
  replace H : (some (t537, true)) = some (r1, r2) := H
  have A5 := Aside0.mk A50
  clear A50
  simp only [Option.some.injEq, Prod.mk.injEq] at H
  obtain ⟨rfl, rfl⟩ := H
  go_enter Try.func21, Try.ntmps21
  go_wp2_with (first | ((with_reducible refine gate_dst (N := 2) rfl ?_); refine zbe (N := 2) (cs := #[.int .i64 a0_0, .slice A0_1 l0_1.length c0_1, .slice A0_2 l0_2.length c0_2]) (t := 27) ?_; intro gb534 hg w6 hbox hb; have BK534 := Aside0.mk (hbox); have GW534 := Aside0.mk (zge (zb0 HB) hg); have GE534 := GW534; replace HB := Aside0.mk (below_step (zb0 HB) hb); clear hb hbox hg) | ((with_reducible refine gate_dst (N := 3) rfl ?_); refine zbe (N := 3) (cs := #[.int .i64 a1_0, .slice A1_1 l1_1.length c1_1, .slice A1_2 l1_2.length c1_2]) (t := 27) ?_; intro gb535 hg w7 hbox hb; have BK535 := Aside0.mk (hbox); have GW535 := Aside0.mk (zge (zb1 HB) hg); have GE535 := GW535; have NB534_535 := Aside0.mk (zlt BK534 hg); have NB535_534 := Aside0.mk (zgt BK534 hg); replace BK534 := Aside0.mk (zbb BK534 hb); replace HB := Aside0.mk (below_step (zb1 HB) hb); clear hb hbox hg; have hnb8 := NB534_535.out; have hnc8 := NB535_534.out; have hcz9_0 : w7.cell? ⟨gb534, 0, none⟩ = some (.int .i64 a0_0) := zc BK534 0; have hcz9_1 : w7.cell? ⟨gb534, 1, none⟩ = some (.slice A0_1 l0_1.length c0_1) := zc BK534 1; have hcz9_2 : w7.cell? ⟨gb534, 2, none⟩ = some (.slice A0_2 l0_2.length c0_2) := zc BK534 2; have hfz9_0 := blk_frozen BK534.out 0; have hfz9_1 := blk_frozen BK534.out 1; have hfz9_2 := blk_frozen BK534.out 2; have hcz10_0 : w7.cell? ⟨gb535, 0, none⟩ = some (.int .i64 a1_0) := zc BK535 0; have hcz10_1 : w7.cell? ⟨gb535, 1, none⟩ = some (.slice A1_1 l1_1.length c1_1) := zc BK535 1; have hcz10_2 : w7.cell? ⟨gb535, 2, none⟩ = some (.slice A1_2 l1_2.length c1_2) := zc BK535 2; have hfz10_0 := blk_frozen BK535.out 0; have hfz10_1 := blk_frozen BK535.out 1; have hfz10_2 := blk_frozen BK535.out 2) | ((with_reducible refine gate_callee (f := 60) rfl ?_); refine goesL_ (some 8) rfl rfl Try.func60 (by kernel_rfl) rfl #[.agg #[.int .i64 a0_0, .slice A0_1 l0_1.length c0_1, .slice A0_2 l0_2.length c0_2], .agg #[.int .i64 a1_0, .slice A1_1 l1_1.length c1_1, .slice A1_2 l1_2.length c1_2]] rfl zq6 ?_; (with_reducible refine (spec_bxTwo.calls k a0_0 _ _ l0_1 _ _ l0_2 a1_0 _ _ l1_1 _ _ l1_2 true _ ?side1 ?side2 ?side3 ?side4 ?side5 ?side6 ?side7 ?side8 A3.out).mono ?_); (case side1 => repeat (first | exact (Kd.C_below HR0_1.out HB.out) | (with_reducible refine Kd.C_alloc ?_ _) | (with_reducible refine Kd.C_drewN ?_ _) | (with_reducible refine Kd.C_drew ?_))); (case side2 => exact HC0_1.out); (case side3 => repeat (first | exact (Kd.C_below HR0_2.out HB.out) | (with_reducible refine Kd.C_alloc ?_ _) | (with_reducible refine Kd.C_drewN ?_ _) | (with_reducible refine Kd.C_drew ?_))); (case side4 => exact HC0_2.out); (case side5 => repeat (first | exact (Kd.C_below HR1_1.out HB.out) | (with_reducible refine Kd.C_alloc ?_ _) | (with_reducible refine Kd.C_drewN ?_ _) | (with_reducible refine Kd.C_drew ?_))); (case side6 => exact HC1_1.out); (case side7 => repeat (first | exact (Kd.C_below HR1_2.out HB.out) | (with_reducible refine Kd.C_alloc ?_ _) | (with_reducible refine Kd.C_drewN ?_ _) | (with_reducible refine Kd.C_drew ?_))); (case side8 => exact HC1_2.out); rintro e w11 ⟨rfl, hb⟩; refine ⟨_, rfl, ?_⟩; replace BK534 := Aside0.mk (zbb BK534 hb); replace BK535 := Aside0.mk (zbb BK535 hb); replace HB := Aside0.mk (below_step (zb1 HB) hb); (try clear hb); (try clear hb2); (try clear hk); (try clear hi); have hcz12_0 : w11.cell? ⟨gb534, 0, none⟩ = some (.int .i64 a0_0) := zc BK534 0; have hcz12_1 : w11.cell? ⟨gb534, 1, none⟩ = some (.slice A0_1 l0_1.length c0_1) := zc BK534 1; have hcz12_2 : w11.cell? ⟨gb534, 2, none⟩ = some (.slice A0_2 l0_2.length c0_2) := zc BK534 2; have hfz12_0 := blk_frozen BK534.out 0; have hfz12_1 := blk_frozen BK534.out 1; have hfz12_2 := blk_frozen BK534.out 2; have hcz13_0 : w11.cell? ⟨gb535, 0, none⟩ = some (.int .i64 a1_0) := zc BK535 0; have hcz13_1 : w11.cell? ⟨gb535, 1, none⟩ = some (.slice A1_1 l1_1.length c1_1) := zc BK535 1; have hcz13_2 : w11.cell? ⟨gb535, 2, none⟩ = some (.slice A1_2 l1_2.length c1_2) := zc BK535 2; have hfz13_0 := blk_frozen BK535.out 0; have hfz13_1 := blk_frozen BK535.out 1; have hfz13_2 := blk_frozen BK535.out 2) | ((with_reducible refine gate_callee (f := 61) rfl ?_); refine goesL_ (some 12) rfl rfl Try.func61 (by kernel_rfl) rfl #[.agg #[.int .i64 a0_0, .slice A0_1 l0_1.length c0_1, .slice A0_2 l0_2.length c0_2], .agg #[.int .i64 a1_0, .slice A1_1 l1_1.length c1_1, .slice A1_2 l1_2.length c1_2]] rfl zq6 ?_; (with_reducible refine (spec_bxIn.calls k a0_0 _ _ l0_1 _ _ l0_2 a1_0 _ _ l1_1 _ _ l1_2 t537 _ ?side1 ?side2 ?side3 ?side4 ?side5 ?side6 ?side7 ?side8 A5.out).mono ?_); (case side1 => repeat (first | exact (Kd.C_below HR0_1.out HB.out) | (with_reducible refine Kd.C_alloc ?_ _) | (with_reducible refine Kd.C_drewN ?_ _) | (with_reducible refine Kd.C_drew ?_))); (case side2 => exact HC0_1.out); (case side3 => repeat (first | exact (Kd.C_below HR0_2.out HB.out) | (with_reducible refine Kd.C_alloc ?_ _) | (with_reducible refine Kd.C_drewN ?_ _) | (with_reducible refine Kd.C_drew ?_))); (case side4 => exact HC0_2.out); (case side5 => repeat (first | exact (Kd.C_below HR1_1.out HB.out) | (with_reducible refine Kd.C_alloc ?_ _) | (with_reducible refine Kd.C_drewN ?_ _) | (with_reducible refine Kd.C_drew ?_))); (case side6 => exact HC1_1.out); (case side7 => repeat (first | exact (Kd.C_below HR1_2.out HB.out) | (with_reducible refine Kd.C_alloc ?_ _) | (with_reducible refine Kd.C_drewN ?_ _) | (with_reducible refine Kd.C_drew ?_))); (case side8 => exact HC1_2.out); rintro e w14 ⟨rfl, hb⟩; refine ⟨_, rfl, ?_⟩; replace BK534 := Aside0.mk (zbb BK534 hb); replace BK535 := Aside0.mk (zbb BK535 hb); replace HB := Aside0.mk (below_step (zb1 HB) hb); (try clear hb); (try clear hb2); (try clear hk); (try clear hi)))
  go_ret2
  exact ⟨by first | rfl | (simp [errW_none, errW_some] <;> rfl) | (simp [*, errW_none, errW_some] <;> rfl), (zb1 HB)⟩
 ·
  replace c4 := Bool.eq_false_iff.mpr c4
  subst c4
  have H1 : (some (false, false)) = some (r1, r2) := by rw [if_neg (show ¬ (false = true) by decide)] at H; exact H
  clear H
  have H := H1
  clear H1
  simp only [Option.some.injEq, Prod.mk.injEq] at H
  obtain ⟨rfl, rfl⟩ := H
  go_enter Try.func21, Try.ntmps21
  go_wp2_with (first | ((with_reducible refine gate_dst (N := 2) rfl ?_); refine zbe (N := 2) (cs := #[.int .i64 a0_0, .slice A0_1 l0_1.length c0_1, .slice A0_2 l0_2.length c0_2]) (t := 27) ?_; intro gb534 hg w15 hbox hb; have BK534 := Aside0.mk (hbox); have GW534 := Aside0.mk (zge (zb0 HB) hg); have GE534 := GW534; replace HB := Aside0.mk (below_step (zb0 HB) hb); clear hb hbox hg) | ((with_reducible refine gate_dst (N := 3) rfl ?_); refine zbe (N := 3) (cs := #[.int .i64 a1_0, .slice A1_1 l1_1.length c1_1, .slice A1_2 l1_2.length c1_2]) (t := 27) ?_; intro gb535 hg w16 hbox hb; have BK535 := Aside0.mk (hbox); have GW535 := Aside0.mk (zge (zb1 HB) hg); have GE535 := GW535; have NB534_535 := Aside0.mk (zlt BK534 hg); have NB535_534 := Aside0.mk (zgt BK534 hg); replace BK534 := Aside0.mk (zbb BK534 hb); replace HB := Aside0.mk (below_step (zb1 HB) hb); clear hb hbox hg; have hnb17 := NB534_535.out; have hnc17 := NB535_534.out; have hcz18_0 : w16.cell? ⟨gb534, 0, none⟩ = some (.int .i64 a0_0) := zc BK534 0; have hcz18_1 : w16.cell? ⟨gb534, 1, none⟩ = some (.slice A0_1 l0_1.length c0_1) := zc BK534 1; have hcz18_2 : w16.cell? ⟨gb534, 2, none⟩ = some (.slice A0_2 l0_2.length c0_2) := zc BK534 2; have hfz18_0 := blk_frozen BK534.out 0; have hfz18_1 := blk_frozen BK534.out 1; have hfz18_2 := blk_frozen BK534.out 2; have hcz19_0 : w16.cell? ⟨gb535, 0, none⟩ = some (.int .i64 a1_0) := zc BK535 0; have hcz19_1 : w16.cell? ⟨gb535, 1, none⟩ = some (.slice A1_1 l1_1.length c1_1) := zc BK535 1; have hcz19_2 : w16.cell? ⟨gb535, 2, none⟩ = some (.slice A1_2 l1_2.length c1_2) := zc BK535 2; have hfz19_0 := blk_frozen BK535.out 0; have hfz19_1 := blk_frozen BK535.out 1; have hfz19_2 := blk_frozen BK535.out 2) | ((with_reducible refine gate_callee (f := 60) rfl ?_); refine goesL_ (some 8) rfl rfl Try.func60 (by kernel_rfl) rfl #[.agg #[.int .i64 a0_0, .slice A0_1 l0_1.length c0_1, .slice A0_2 l0_2.length c0_2], .agg #[.int .i64 a1_0, .slice A1_1 l1_1.length c1_1, .slice A1_2 l1_2.length c1_2]] rfl zq6 ?_; (with_reducible refine (spec_bxTwo.calls k a0_0 _ _ l0_1 _ _ l0_2 a1_0 _ _ l1_1 _ _ l1_2 false _ ?side1 ?side2 ?side3 ?side4 ?side5 ?side6 ?side7 ?side8 A3.out).mono ?_); (case side1 => repeat (first | exact (Kd.C_below HR0_1.out HB.out) | (with_reducible refine Kd.C_alloc ?_ _) | (with_reducible refine Kd.C_drewN ?_ _) | (with_reducible refine Kd.C_drew ?_))); (case side2 => exact HC0_1.out); (case side3 => repeat (first | exact (Kd.C_below HR0_2.out HB.out) | (with_reducible refine Kd.C_alloc ?_ _) | (with_reducible refine Kd.C_drewN ?_ _) | (with_reducible refine Kd.C_drew ?_))); (case side4 => exact HC0_2.out); (case side5 => repeat (first | exact (Kd.C_below HR1_1.out HB.out) | (with_reducible refine Kd.C_alloc ?_ _) | (with_reducible refine Kd.C_drewN ?_ _) | (with_reducible refine Kd.C_drew ?_))); (case side6 => exact HC1_1.out); (case side7 => repeat (first | exact (Kd.C_below HR1_2.out HB.out) | (with_reducible refine Kd.C_alloc ?_ _) | (with_reducible refine Kd.C_drewN ?_ _) | (with_reducible refine Kd.C_drew ?_))); (case side8 => exact HC1_2.out); rintro e w20 ⟨rfl, hb⟩; refine ⟨_, rfl, ?_⟩; replace BK534 := Aside0.mk (zbb BK534 hb); replace BK535 := Aside0.mk (zbb BK535 hb); replace HB := Aside0.mk (below_step (zb1 HB) hb); (try clear hb); (try clear hb2); (try clear hk); (try clear hi)))
  go_ret2
  exact ⟨by first | rfl | (simp [errW_none, errW_some] <;> rfl) | (simp [*, errW_none, errW_some] <;> rfl), (zb1 HB)⟩
end Go.Proofs.Ytgaoniapddpaaaa.PD
