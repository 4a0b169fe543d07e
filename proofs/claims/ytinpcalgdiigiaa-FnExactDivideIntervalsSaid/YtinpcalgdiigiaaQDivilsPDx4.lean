-- By wip/mk/drv.py
import Derived.Test.YtinpcalgdiigiaaQDivilsPDx0
import Derived.Test.YtinpcalgdiigiaaQDivilsPDx1
import Derived.Test.YtinpcalgdiigiaaQDivilsPDx3
import Derived.Test.YtinpcalgdiigiaaQDivilsPDx88
namespace Go.Proofs.Ytinpcalgdiigiaa.PD
open Go.RowKit Go.Proofs.YtinpcalgdiigiaaW.PrintWords Go.Proofs.YtinpcalgdiigiaaW.PrintLast Go.Proofs.YtinpcalgdiigiaaW.PrintMore
attribute [local go_sem] max2_int min2_int max_two min_two max_three min_three max_four min_four
set_option linter.unusedVariables false
set_option linter.unusedSimpArgs false
/-! ### impl_minus: function 61 -/
set_option maxHeartbeats 8000000 in
set_option maxRecDepth 100000 in
theorem impl_minus.calls (a0_0 : Int) (a0_1 : Int) (r1 : Int) (r2 : Int) (w : World) (h : impl_minus.f a0_0 a0_1 = some (r1, r2)) :
  Calls Try.prog 61 #[.agg #[.int .i64 a0_0, .int .i64 a0_1]] w fun e w' => e = .returned (.agg #[.int .i64 r1, .int .i64 r2]) ∧ Below w.heap.size w w' := by
 have hu27 := Try.underlying27
 have HB := Aside0.mk (Below.refl w.heap.size w)
 have H : (some (wrap64 (-a0_0), a0_1)) = some (r1, r2) := h
 clear h
 simp only [Option.some.injEq, Prod.mk.injEq] at H
 obtain ⟨rfl, rfl⟩ := H
 go_enter Try.func61, Try.ntmps61
 go_wp2_with (first | ((with_reducible refine gate_dst (N := 1) rfl ?_); refine zbe (N := 1) (cs := #[.int .i64 a0_0, .int .i64 a0_1]) (t := 27) ?_; intro gb456 hg w2 hbox hb; have BK456 := Aside0.mk (hbox); have GW456 := Aside0.mk (zge (zb0 HB) hg); have GE456 := GW456; replace HB := Aside0.mk (below_step (zb0 HB) hb); clear hb hbox hg) | ((with_reducible refine gate_dst (N := 2) rfl ?_); refine zbe (N := 2) (cs := #[.int .i64 0, .int .i64 0]) (t := 27) ?_; intro gb457 hg w3 hbox hb; have BK457 := Aside0.mk (hbox); have GW457 := Aside0.mk (zge (zb1 HB) hg); have GE457 := GW457; have NB456_457 := Aside0.mk (zlt BK456 hg); have NB457_456 := Aside0.mk (zgt BK456 hg); replace BK456 := Aside0.mk (zbb BK456 hb); replace HB := Aside0.mk (below_step (zb1 HB) hb); clear hb hbox hg; have hnb4 := NB456_457.out; have hnc4 := NB457_456.out; have hcz5_0 : w3.cell? ⟨gb456, 0, none⟩ = some (.int .i64 a0_0) := zc BK456 0; have hcz5_1 : w3.cell? ⟨gb456, 1, none⟩ = some (.int .i64 a0_1) := zc BK456 1; have hfz5_0 := blk_frozen BK456.out 0; have hfz5_1 := blk_frozen BK456.out 1; have hcz6_0 : w3.cell? ⟨gb457, 0, none⟩ = some (.int .i64 0) := zc BK457 0; have hcz6_1 : w3.cell? ⟨gb457, 1, none⟩ = some (.int .i64 0) := zc BK457 1; have hfz6_0 := blk_frozen BK457.out 0; have hfz6_1 := blk_frozen BK457.out 1))
 refine bodyPost_ret (results_cell_row rfl _ _ gb457 27 #[.int .i64 (wrap64 (-a0_0)), .int .i64 a0_1] (0, 0) _ rfl (by (with_reducible repeat (first | refine blk_drewN ?_ _ | refine blk_drew ?_ | refine blk_alloc ?_ _)); refine blk_put (cs := #[.int .i64 (wrap64 (-a0_0)), .int .i64 0]) ?_ 1 _ rfl; (with_reducible repeat (first | refine blk_drewN ?_ _ | refine blk_drew ?_ | refine blk_alloc ?_ _)); refine blk_put (cs := #[.int .i64 0, .int .i64 0]) ?_ 0 _ rfl; (with_reducible repeat (first | refine blk_drewN ?_ _ | refine blk_drew ?_ | refine blk_alloc ?_ _)); exact BK457.out) Try.underlying27 rfl (by kernel_rfl)) rfl ?_
 exact ⟨by first | rfl | (simp [errW_none, errW_some] <;> rfl) | (simp [*, errW_none, errW_some] <;> rfl), (zb1 HB)⟩
/-! ### spec_l1Most: function 109 -/
set_option maxHeartbeats 8000000 in
set_option maxRecDepth 100000 in
theorem spec_l1Most.calls (a0 : Int) (a1 : Int) (r : Int) (w : World) (h : spec_l1Most.f a0 a1 = some r) :
  Calls Try.prog 109 #[.int .i64 a0, .int .i64 a1] w fun e w' => e = .returned (.int .i64 r) ∧ Drawn0 w w' := by
 have H : (if a0 > a1 then (some a0) else (some a1)) = some r := h
 clear h
 by_cases c3 : a0 > a1
 ·
  rw [if_pos c3] at H
  have c3b0 : decide (a1 < a0) = true := decide_eq_true c3
  clear c3
  obtain rfl := Option.some.inj H
  go_enter Try.func109, Try.ntmps109
  go_wp2
  go_ret
  exact ⟨by first | rfl | (simp; done) | (simp [*]; done), by repeat (first | exact Drawn0.refl _ | apply Drawn0.step)⟩
 ·
  rw [if_neg c3] at H
  have c3b0 : decide (a1 < a0) = false := decide_eq_false c3
  clear c3
  obtain rfl := Option.some.inj H
  go_enter Try.func109, Try.ntmps109
  go_wp2
  go_ret
  exact ⟨by first | rfl | (simp; done) | (simp [*]; done), by repeat (first | exact Drawn0.refl _ | apply Drawn0.step)⟩
/-! ### bits_Add64: function 110 -/
-- PROOF
theorem bits_Add64.run (a0 : Int) (a1 : Int) (a2 : Int) (r1 : Int) (r2 : Int) (W : World) (h : bits_Add64.f a0 a1 a2 = some (r1, r2)) :
  (callFunc 110 #[.int .u64 a0, .int .u64 a1, .int .u64 a2]).run Try.prog W = .ok (.value (.tuple #[.int .u64 r1, .int .u64 r2])) W := by
 rw [run_callFunc_extern Try.func110 (by kernel_rfl) (by kernel_rfl) (by kernel_rfl) (e := add64Entry) (by kernel_rfl)]
 unfold bits_Add64.f at h
 by_cases h0 : a2 = 0
 ·
  rw [if_pos h0] at h
  subst h0
  have h1 := Option.some.inj h
  obtain ⟨rfl, rfl⟩ := Prod.mk.inj h1
  rfl
 ·
  rw [if_neg h0] at h
  by_cases h1 : a2 = 1
  ·
   rw [if_pos h1] at h
   subst h1
   have h1 := Option.some.inj h
   obtain ⟨rfl, rfl⟩ := Prod.mk.inj h1
   rfl
  ·
   rw [if_neg h1] at h
   cases h
/-! ### bits_Sub64: function 111 -/
-- PROOF
theorem bits_Sub64.run (a0 : Int) (a1 : Int) (a2 : Int) (r1 : Int) (r2 : Int) (W : World) (h : bits_Sub64.f a0 a1 a2 = some (r1, r2)) :
  (callFunc 111 #[.int .u64 a0, .int .u64 a1, .int .u64 a2]).run Try.prog W = .ok (.value (.tuple #[.int .u64 r1, .int .u64 r2])) W := by
 rw [run_callFunc_extern Try.func111 (by kernel_rfl) (by kernel_rfl) (by kernel_rfl) (e := Go.Proofs.sub64Entry) (by kernel_rfl)]
 unfold bits_Sub64.f at h
 by_cases h0 : a2 = 0
 ·
  rw [if_pos h0] at h
  subst h0
  have h1 := Option.some.inj h
  obtain ⟨rfl, rfl⟩ := Prod.mk.inj h1
  rfl
 ·
  rw [if_neg h0] at h
  by_cases h1 : a2 = 1
  ·
   rw [if_pos h1] at h
   subst h1
   have h1 := Option.some.inj h
   obtain ⟨rfl, rfl⟩ := Prod.mk.inj h1
   rfl
  ·
   rw [if_neg h1] at h
   cases h
/-! ### spec_ivBoth: function 90 -/
/-! ### impl_reckoner_result: function 63 -/
/-! ### spec_ivMinus: function 92 -/
/-! ### spec_l1Abs: function 113 -/
set_option maxHeartbeats 8000000 in
set_option maxRecDepth 100000 in
theorem spec_l1Abs.calls (a0 : Int) (r : Int) (w : World) (h : spec_l1Abs.f a0 = some r) :
  Calls Try.prog 113 #[.int .i64 a0] w fun e w' => e = .returned (.int .i64 r) ∧ Drawn0 w w' := by
 have H : ((spec_l1Most.f a0 (wrap64 (-a0))).bind fun t787 => (some t787)) = some r := h
 clear h
 replace H := Option.bind_eq_some_iff.mp H
 obtain ⟨t787, A20, H⟩ := H
 replace H : (some t787) = some r := H
 have A2 := Aside0.mk A20
 clear A20
 obtain rfl := Option.some.inj H
 go_enter Try.func113, Try.ntmps113
 go_wp2_with (first | ((with_reducible refine gate_callee (f := 109) rfl ?_); refine goesL_ (some 6) rfl rfl Try.func109 (by kernel_rfl) rfl #[.int .i64 a0, .int .i64 (wrap64 (-a0))] rfl zq6 ?_; (with_reducible refine (spec_l1Most.calls a0 (wrap64 (-a0)) t787 _ A2.out).mono ?_); rintro e w' ⟨rfl, ⟨nd, rfl⟩⟩; refine ⟨_, rfl, ?_⟩))
 go_ret
 exact ⟨by first | rfl | (simp; done) | (simp [*]; done), by repeat (first | exact Drawn0.refl _ | apply Drawn0.step)⟩
/-! ### bits_Mul64: function 122 -/
/-! ### impl_timesWide: function 119 -/
/-! ### spec_dyInt: function 96 -/
/-! ### impl_single: function 97 -/
/-! ### impl_integer: function 98 -/
end Go.Proofs.Ytinpcalgdiigiaa.PD
