-- By wip/mk/drv.py
import Derived.Test.YtlhojnbllfmmoaaDoorQIntextPDx0
import Derived.Test.YtlhojnbllfmmoaaDoorQIntextPDx1
import Derived.Test.YtlhojnbllfmmoaaDoorQIntextPDx2
import Derived.Test.YtlhojnbllfmmoaaDoorQIntextPDx11
namespace Go.Proofs.YtlhojnbllfmmoaaDoor.PD
open Go.RowKit Go.Proofs.YtlhojnbllfmmoaaDoorW.PrintWords Go.Proofs.YtlhojnbllfmmoaaDoorW.PrintLast Go.Proofs.YtlhojnbllfmmoaaDoorW.PrintMore
attribute [local go_sem] max2_int min2_int max_two min_two max_three min_three max_four min_four
set_option linter.unusedVariables false
set_option linter.unusedSimpArgs false
/-! ### spec_ivGood: function 15 -/
set_option maxHeartbeats 8000000 in
set_option maxRecDepth 100000 in
theorem spec_ivGood.calls (k : Nat) (a0_0 : Int) (a0_1 : Int) (a0_2 : Int) (a0_3 : Int) (r : Bool) (w : World) (h : spec_ivGood.f k a0_0 a0_1 a0_2 a0_3 = some r) :
  Calls Tryd.prog 15 #[.agg #[.int .i64 a0_0, .int .i64 a0_1, .int .i64 a0_2, .int .i64 a0_3]] w fun e w' => e = .returned (.bool r) ∧ Below w.heap.size w w' := by
 have hu33 := Tryd.underlying33
 have hu26 := Tryd.underlying26
 have HB := Aside0.mk (Below.refl w.heap.size w)
 have H : ((spec_dyGood.f a0_0 a0_1).bind fun t181 => (if t181 = true then ((spec_dyGood.f a0_2 a0_3).bind fun t182 => (if t182 = true then ((spec_dyCmp.f k a0_0 a0_1 a0_2 a0_3).bind fun t183 => (some (decide (t183 ≤ 0)))) else (some false))) else (some false))) = some r := h
 clear h
 replace H := Option.bind_eq_some_iff.mp H
 obtain ⟨t181, A20, H⟩ := H
 replace H : (if t181 = true then ((spec_dyGood.f a0_2 a0_3).bind fun t182 => (if t182 = true then ((spec_dyCmp.f k a0_0 a0_1 a0_2 a0_3).bind fun t183 => (some (decide (t183 ≤ 0)))) else (some false))) else (some false)) = some r := H
 have A2 := Aside0.mk A20
 clear A20
 by_cases c3 : t181 = true
 ·
  subst c3
  have H1 : ((spec_dyGood.f a0_2 a0_3).bind fun t182 => (if t182 = true then ((spec_dyCmp.f k a0_0 a0_1 a0_2 a0_3).bind fun t183 => (some (decide (t183 ≤ 0)))) else (some false))) = some r := by rw [if_pos rfl] at H; exact H
  clear H
  have H := H1
  clear H1
  replace H := Option.bind_eq_some_iff.mp H
  obtain ⟨t182, A40, H⟩ := H
  replace H : (if t182 = true then ((spec_dyCmp.f k a0_0 a0_1 a0_2 a0_3).bind fun t183 => (some (decide (t183 ≤ 0)))) else (some false)) = some r := H
  have A4 := Aside0.mk A40
  clear A40
  by_cases c5 : t182 = true
  ·
   subst c5
   have H1 : ((spec_dyCmp.f k a0_0 a0_1 a0_2 a0_3).bind fun t183 => (some (decide (t183 ≤ 0)))) = some r := by rw [if_pos rfl] at H; exact H
   clear H
   have H := H1
   clear H1
   replace H := Option.bind_eq_some_iff.mp H
   obtain ⟨t183, A60, H⟩ := H
   replace H : (some (decide (t183 ≤ 0))) = some r := H
   have A6 := Aside0.mk A60
   clear A60
   obtain rfl := Option.some.inj H
   go_enter Tryd.func15, Tryd.ntmps15
   go_wp2_with (first | ((with_reducible refine gate_dst (N := 1) rfl ?_); refine zbe (N := 1) (cs := #[.int .i64 a0_0, .int .i64 a0_1, .int .i64 a0_2, .int .i64 a0_3]) (t := 33) ?_; intro gb180 hg w7 hbox hb; have BK180 := Aside0.mk (hbox); have GW180 := Aside0.mk (zge (zb0 HB) hg); have GE180 := GW180; replace HB := Aside0.mk (below_step (zb0 HB) hb); clear hb hbox hg; have hcz8_0 : w7.cell? ⟨gb180, 0, none⟩ = some (.int .i64 a0_0) := zc BK180 0; have hcz8_1 : w7.cell? ⟨gb180, 1, none⟩ = some (.int .i64 a0_1) := zc BK180 1; have hcz8_2 : w7.cell? ⟨gb180, 2, none⟩ = some (.int .i64 a0_2) := zc BK180 2; have hcz8_3 : w7.cell? ⟨gb180, 3, none⟩ = some (.int .i64 a0_3) := zc BK180 3; have hfz8_0 := blk_frozen BK180.out 0; have hfz8_1 := blk_frozen BK180.out 1; have hfz8_2 := blk_frozen BK180.out 2; have hfz8_3 := blk_frozen BK180.out 3) | ((with_reducible refine gate_callee (f := 11) rfl ?_); refine goesL_ (some 5) rfl rfl Tryd.func11 (by kernel_rfl) rfl #[.agg #[.int .i64 a0_0, .int .i64 a0_1]] rfl zq6 ?_; (with_reducible refine (spec_dyGood.calls a0_0 a0_1 true _ A2.out).mono ?_); rintro e w9 ⟨rfl, hb⟩; refine ⟨_, rfl, ?_⟩; replace BK180 := Aside0.mk (zbb BK180 hb); replace HB := Aside0.mk (below_step (zb1 HB) hb); (try clear hb); (try clear hb2); (try clear hk); (try clear hi); have hcz10_0 : w9.cell? ⟨gb180, 0, none⟩ = some (.int .i64 a0_0) := zc BK180 0; have hcz10_1 : w9.cell? ⟨gb180, 1, none⟩ = some (.int .i64 a0_1) := zc BK180 1; have hcz10_2 : w9.cell? ⟨gb180, 2, none⟩ = some (.int .i64 a0_2) := zc BK180 2; have hcz10_3 : w9.cell? ⟨gb180, 3, none⟩ = some (.int .i64 a0_3) := zc BK180 3; have hfz10_0 := blk_frozen BK180.out 0; have hfz10_1 := blk_frozen BK180.out 1; have hfz10_2 := blk_frozen BK180.out 2; have hfz10_3 := blk_frozen BK180.out 3) | (go_at_call 11; (with_reducible refine (spec_dyGood.calls a0_2 a0_3 true _ A4.out).mono ?_); rintro e w11 ⟨rfl, hb⟩; replace BK180 := Aside0.mk (zbb BK180 hb); replace HB := Aside0.mk (below_step (zb1 HB) hb); (try clear hb); (try clear hb2); (try clear hk); (try clear hi); have hcz12_0 : w11.cell? ⟨gb180, 0, none⟩ = some (.int .i64 a0_0) := zc BK180 0; have hcz12_1 : w11.cell? ⟨gb180, 1, none⟩ = some (.int .i64 a0_1) := zc BK180 1; have hcz12_2 : w11.cell? ⟨gb180, 2, none⟩ = some (.int .i64 a0_2) := zc BK180 2; have hcz12_3 : w11.cell? ⟨gb180, 3, none⟩ = some (.int .i64 a0_3) := zc BK180 3; have hfz12_0 := blk_frozen BK180.out 0; have hfz12_1 := blk_frozen BK180.out 1; have hfz12_2 := blk_frozen BK180.out 2; have hfz12_3 := blk_frozen BK180.out 3) | (go_at_call 25; (with_reducible refine (spec_dyCmp.calls k a0_0 a0_1 a0_2 a0_3 t183 _ A6.out).mono ?_); rintro e w13 ⟨rfl, hb⟩; replace BK180 := Aside0.mk (zbb BK180 hb); replace HB := Aside0.mk (below_step (zb1 HB) hb); (try clear hb); (try clear hb2); (try clear hk); (try clear hi)))
   go_ret
   exact ⟨by first | rfl | (simp [errW_none, errW_some] <;> rfl) | (simp [*, errW_none, errW_some] <;> rfl), (zb1 HB)⟩
  ·
   replace c5 := Bool.eq_false_iff.mpr c5
   subst c5
   have H1 : (some false) = some r := by rw [if_neg (show ¬ (false = true) by decide)] at H; exact H
   clear H
   have H := H1
   clear H1
   obtain rfl := Option.some.inj H
   go_enter Tryd.func15, Tryd.ntmps15
   go_wp2_with (first | ((with_reducible refine gate_dst (N := 1) rfl ?_); refine zbe (N := 1) (cs := #[.int .i64 a0_0, .int .i64 a0_1, .int .i64 a0_2, .int .i64 a0_3]) (t := 33) ?_; intro gb180 hg w14 hbox hb; have BK180 := Aside0.mk (hbox); have GW180 := Aside0.mk (zge (zb0 HB) hg); have GE180 := GW180; replace HB := Aside0.mk (below_step (zb0 HB) hb); clear hb hbox hg; have hcz15_0 : w14.cell? ⟨gb180, 0, none⟩ = some (.int .i64 a0_0) := zc BK180 0; have hcz15_1 : w14.cell? ⟨gb180, 1, none⟩ = some (.int .i64 a0_1) := zc BK180 1; have hcz15_2 : w14.cell? ⟨gb180, 2, none⟩ = some (.int .i64 a0_2) := zc BK180 2; have hcz15_3 : w14.cell? ⟨gb180, 3, none⟩ = some (.int .i64 a0_3) := zc BK180 3; have hfz15_0 := blk_frozen BK180.out 0; have hfz15_1 := blk_frozen BK180.out 1; have hfz15_2 := blk_frozen BK180.out 2; have hfz15_3 := blk_frozen BK180.out 3) | ((with_reducible refine gate_callee (f := 11) rfl ?_); refine goesL_ (some 5) rfl rfl Tryd.func11 (by kernel_rfl) rfl #[.agg #[.int .i64 a0_0, .int .i64 a0_1]] rfl zq6 ?_; (with_reducible refine (spec_dyGood.calls a0_0 a0_1 true _ A2.out).mono ?_); rintro e w16 ⟨rfl, hb⟩; refine ⟨_, rfl, ?_⟩; replace BK180 := Aside0.mk (zbb BK180 hb); replace HB := Aside0.mk (below_step (zb1 HB) hb); (try clear hb); (try clear hb2); (try clear hk); (try clear hi); have hcz17_0 : w16.cell? ⟨gb180, 0, none⟩ = some (.int .i64 a0_0) := zc BK180 0; have hcz17_1 : w16.cell? ⟨gb180, 1, none⟩ = some (.int .i64 a0_1) := zc BK180 1; have hcz17_2 : w16.cell? ⟨gb180, 2, none⟩ = some (.int .i64 a0_2) := zc BK180 2; have hcz17_3 : w16.cell? ⟨gb180, 3, none⟩ = some (.int .i64 a0_3) := zc BK180 3; have hfz17_0 := blk_frozen BK180.out 0; have hfz17_1 := blk_frozen BK180.out 1; have hfz17_2 := blk_frozen BK180.out 2; have hfz17_3 := blk_frozen BK180.out 3) | (go_at_call 11; (with_reducible refine (spec_dyGood.calls a0_2 a0_3 false _ A4.out).mono ?_); rintro e w18 ⟨rfl, hb⟩; replace BK180 := Aside0.mk (zbb BK180 hb); replace HB := Aside0.mk (below_step (zb1 HB) hb); (try clear hb); (try clear hb2); (try clear hk); (try clear hi)))
   go_ret
   exact ⟨by first | rfl | (simp [errW_none, errW_some] <;> rfl) | (simp [*, errW_none, errW_some] <;> rfl), (zb1 HB)⟩
 ·
  replace c3 := Bool.eq_false_iff.mpr c3
  subst c3
  have H1 : (some false) = some r := by rw [if_neg (show ¬ (false = true) by decide)] at H; exact H
  clear H
  have H := H1
  clear H1
  obtain rfl := Option.some.inj H
  go_enter Tryd.func15, Tryd.ntmps15
  go_wp2_with (first | ((with_reducible refine gate_dst (N := 1) rfl ?_); refine zbe (N := 1) (cs := #[.int .i64 a0_0, .int .i64 a0_1, .int .i64 a0_2, .int .i64 a0_3]) (t := 33) ?_; intro gb180 hg w19 hbox hb; have BK180 := Aside0.mk (hbox); have GW180 := Aside0.mk (zge (zb0 HB) hg); have GE180 := GW180; replace HB := Aside0.mk (below_step (zb0 HB) hb); clear hb hbox hg; have hcz20_0 : w19.cell? ⟨gb180, 0, none⟩ = some (.int .i64 a0_0) := zc BK180 0; have hcz20_1 : w19.cell? ⟨gb180, 1, none⟩ = some (.int .i64 a0_1) := zc BK180 1; have hcz20_2 : w19.cell? ⟨gb180, 2, none⟩ = some (.int .i64 a0_2) := zc BK180 2; have hcz20_3 : w19.cell? ⟨gb180, 3, none⟩ = some (.int .i64 a0_3) := zc BK180 3; have hfz20_0 := blk_frozen BK180.out 0; have hfz20_1 := blk_frozen BK180.out 1; have hfz20_2 := blk_frozen BK180.out 2; have hfz20_3 := blk_frozen BK180.out 3) | ((with_reducible refine gate_callee (f := 11) rfl ?_); refine goesL_ (some 5) rfl rfl Tryd.func11 (by kernel_rfl) rfl #[.agg #[.int .i64 a0_0, .int .i64 a0_1]] rfl zq6 ?_; (with_reducible refine (spec_dyGood.calls a0_0 a0_1 false _ A2.out).mono ?_); rintro e w21 ⟨rfl, hb⟩; refine ⟨_, rfl, ?_⟩; replace BK180 := Aside0.mk (zbb BK180 hb); replace HB := Aside0.mk (below_step (zb1 HB) hb); (try clear hb); (try clear hb2); (try clear hk); (try clear hi)))
  go_ret
  exact ⟨by first | rfl | (simp [errW_none, errW_some] <;> rfl) | (simp [*, errW_none, errW_some] <;> rfl), (zb1 HB)⟩
end Go.Proofs.YtlhojnbllfmmoaaDoor.PD
