-- By wip/mk/drv.py
import Derived.Test.YtlhojnbllfmmoaaDoorQDyadxtPDx0
import Derived.Test.YtlhojnbllfmmoaaDoorQDyadxtPDx1
import Derived.Test.YtlhojnbllfmmoaaDoorQDyadxtPDx2
import Derived.Test.YtlhojnbllfmmoaaDoorQDyadxtPDx8
namespace Go.Proofs.YtlhojnbllfmmoaaDoor.PD
open Go.RowKit Go.Proofs.YtlhojnbllfmmoaaDoorW.PrintWords Go.Proofs.YtlhojnbllfmmoaaDoorW.PrintLast Go.Proofs.YtlhojnbllfmmoaaDoorW.PrintMore
attribute [local go_sem] max2_int min2_int max_two min_two max_three min_three max_four min_four
set_option linter.unusedVariables false
set_option linter.unusedSimpArgs false
/-! ### laws_FnExactDyadicText: function 3 -/
set_option maxHeartbeats 8000000 in
set_option maxRecDepth 100000 in
theorem laws_FnExactDyadicText.calls (k : Nat) (a0_0 : Int) (a0_1 : Int) (r : Bool) (w : World) (ht : Tab w) (h : laws_FnExactDyadicText.f k a0_0 a0_1 = some r) :
  Calls Tryd.prog 3 #[.agg #[.int .i64 a0_0, .int .i64 a0_1]] w fun e w' => e = .returned (.bool r) ∧ Below w.heap.size w w' := by
 have HTAB := Aside0.mk ht
 clear ht
 have hu23 := Tryd.underlying23
 have HB := Aside0.mk (Below.refl w.heap.size w)
 have H : ((laws_toDyadic.f a0_0 a0_1).bind fun bt154 => ((spec_DyadicText.f k bt154.1 bt154.2).bind fun bt156 => ((laws_toDyadic.f a0_0 a0_1).bind fun bt158 => ((impl_DyadicText.f bt158.1 bt158.2).bind fun bt160 => (if bt160.1.toList = bt156.1.toList then (if (bt160.2 != bt156.2) = true then (none) else (some true)) else (none)))))) = some r := h
 clear h
 replace H := Option.bind_eq_some_iff.mp H
 obtain ⟨⟨t154, t155⟩, A20, H⟩ := H
 replace H : ((spec_DyadicText.f k t154 t155).bind fun bt156 => ((laws_toDyadic.f a0_0 a0_1).bind fun bt158 => ((impl_DyadicText.f bt158.1 bt158.2).bind fun bt160 => (if bt160.1.toList = bt156.1.toList then (if (bt160.2 != bt156.2) = true then (none) else (some true)) else (none))))) = some r := H
 have A2 := Aside0.mk A20
 clear A20
 replace H := Option.bind_eq_some_iff.mp H
 obtain ⟨⟨t156, t157⟩, A30, H⟩ := H
 replace H : ((laws_toDyadic.f a0_0 a0_1).bind fun bt158 => ((impl_DyadicText.f bt158.1 bt158.2).bind fun bt160 => (if bt160.1.toList = t156.toList then (if (bt160.2 != t157) = true then (none) else (some true)) else (none)))) = some r := H
 have A3 := Aside0.mk A30
 clear A30
 replace H := Option.bind_eq_some_iff.mp H
 obtain ⟨⟨t158, t159⟩, A40, H⟩ := H
 replace H : ((impl_DyadicText.f t158 t159).bind fun bt160 => (if bt160.1.toList = t156.toList then (if (bt160.2 != t157) = true then (none) else (some true)) else (none))) = some r := H
 have A4 := Aside0.mk A40
 clear A40
 replace H := Option.bind_eq_some_iff.mp H
 obtain ⟨⟨t160, t161⟩, A50, H⟩ := H
 replace H : (if t160.toList = t156.toList then (if (t161 != t157) = true then (none) else (some true)) else (none)) = some r := H
 have A5 := Aside0.mk A50
 clear A50
 by_cases c6 : t160.toList = t156.toList
 ·
  rw [if_pos c6] at H
  have c6b0 : (t160.toList == t156.toList) = true := beq_iff_eq.mpr c6
  have c6b1 : (t160.toList != t156.toList) = false := bne_eq_false_iff_eq.mpr c6
  clear c6
  by_cases c7 : (t161 != t157) = true
  ·
   rw [if_pos c7] at H
   exact absurd H (by simp)
  ·
   rw [if_neg c7] at H
   have c7b0 : (t161 != t157) = false := by simpa using c7
   (try (have c7b1 : decide (t161 = t157) = true := by simpa using c7))
   (try (have c7b2 : (t161 == t157) = true := by simpa using c7))
   clear c7
   obtain rfl := Option.some.inj H
   go_enter Tryd.func3, Tryd.ntmps3
   go_wp2_with (first | ((with_reducible refine gate_dst (N := 1) rfl ?_); refine zbe (N := 1) (cs := #[.int .i64 a0_0, .int .i64 a0_1]) (t := 23) ?_; intro gb153 hg w8 hbox hb; have BK153 := Aside0.mk (hbox); have GW153 := Aside0.mk (zge (zb0 HB) hg); have GE153 := GW153; replace HB := Aside0.mk (below_step (zb0 HB) hb); clear hb hbox hg; have hcz9_0 : w8.cell? ⟨gb153, 0, none⟩ = some (.int .i64 a0_0) := zc BK153 0; have hcz9_1 : w8.cell? ⟨gb153, 1, none⟩ = some (.int .i64 a0_1) := zc BK153 1; have hfz9_0 := blk_frozen BK153.out 0; have hfz9_1 := blk_frozen BK153.out 1) | ((with_reducible refine gate_callee (f := 6) rfl ?_); refine goesL_ (some 9) rfl rfl Tryd.func6 (by kernel_rfl) rfl #[.agg #[.int .i64 a0_0, .int .i64 a0_1]] rfl zq6 ?_; (with_reducible refine (laws_toDyadic.calls a0_0 a0_1 t154 t155 _ A2.out).mono ?_); rintro e w10 ⟨rfl, hb⟩; refine ⟨_, rfl, ?_⟩; replace BK153 := Aside0.mk (zbb BK153 hb); replace HB := Aside0.mk (below_step (zb1 HB) hb); (try clear hb); (try clear hb2); (try clear hk); (try clear hi)) | ((with_reducible refine gate_callee (f := 5) rfl ?_); refine goesL_ (some 10) rfl rfl Tryd.func5 (by kernel_rfl) rfl #[.agg #[.int .i64 t154, .int .i64 t155]] rfl zq6 ?_; (with_reducible refine (spec_DyadicText.calls k t154 t155 t156 t157 _ A3.out).mono ?_); rintro e w11 ⟨rfl, hb⟩; refine ⟨_, rfl, ?_⟩; replace BK153 := Aside0.mk (zbb BK153 hb); replace HB := Aside0.mk (below_step (zb1 HB) hb); (try clear hb); (try clear hb2); (try clear hk); (try clear hi); have hcz12_0 : w11.cell? ⟨gb153, 0, none⟩ = some (.int .i64 a0_0) := zc BK153 0; have hcz12_1 : w11.cell? ⟨gb153, 1, none⟩ = some (.int .i64 a0_1) := zc BK153 1; have hfz12_0 := blk_frozen BK153.out 0; have hfz12_1 := blk_frozen BK153.out 1) | ((with_reducible refine gate_callee (f := 6) rfl ?_); refine goesL_ (some 15) rfl rfl Tryd.func6 (by kernel_rfl) rfl #[.agg #[.int .i64 a0_0, .int .i64 a0_1]] rfl zq6 ?_; (with_reducible refine (laws_toDyadic.calls a0_0 a0_1 t158 t159 _ A4.out).mono ?_); rintro e w13 ⟨rfl, hb⟩; refine ⟨_, rfl, ?_⟩; replace HB := Aside0.mk (below_step (zb0 HB) hb); (try clear hb); (try clear hb2); (try clear hk); (try clear hi)) | ((with_reducible refine gate_callee (f := 7) rfl ?_); refine goesL_ (some 16) rfl rfl Tryd.func7 (by kernel_rfl) rfl #[.agg #[.int .i64 t158, .int .i64 t159]] rfl zq6 ?_; (with_reducible refine (impl_DyadicText.calls t158 t159 t160 t161 _ (ztab HTAB (zb1 HB)) A5.out).mono ?_); rintro e w14 ⟨rfl, hb⟩; refine ⟨_, rfl, ?_⟩; replace HB := Aside0.mk (below_step (zb0 HB) hb); (try clear hb); (try clear hb2); (try clear hk); (try clear hi)))
   go_ret
   exact ⟨by first | rfl | (simp [errW_none, errW_some] <;> rfl) | (simp [*, errW_none, errW_some] <;> rfl), (zb0 HB)⟩
 ·
  rw [if_neg c6] at H
  exact absurd H (by simp)
end Go.Proofs.YtlhojnbllfmmoaaDoor.PD
