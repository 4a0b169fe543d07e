-- By wip/mk/drv.py
import Derived.Test.YtlhojnbllfmmoaaDoorQIntextPDx0
import Derived.Test.YtlhojnbllfmmoaaDoorQIntextPDx1
import Derived.Test.YtlhojnbllfmmoaaDoorQIntextPDx2
import Derived.Test.YtlhojnbllfmmoaaDoorQIntextPDx3
import Derived.Test.YtlhojnbllfmmoaaDoorQIntextPDx14
import Derived.Test.YtlhojnbllfmmoaaDoorQIntextPDx19
namespace Go.Proofs.YtlhojnbllfmmoaaDoor.PD
open Go.RowKit Go.Proofs.YtlhojnbllfmmoaaDoorW.PrintWords Go.Proofs.YtlhojnbllfmmoaaDoorW.PrintLast Go.Proofs.YtlhojnbllfmmoaaDoorW.PrintMore
attribute [local go_sem] max2_int min2_int max_two min_two max_three min_three max_four min_four
set_option linter.unusedVariables false
set_option linter.unusedSimpArgs false
/-! ### laws_FnExactIntervalText: function 4 -/
set_option maxHeartbeats 8000000 in
set_option maxRecDepth 100000 in
theorem laws_FnExactIntervalText.calls (k : Nat) (a0_0 : Int) (a0_1 : Int) (a0_2 : Int) (a0_3 : Int) (r : Bool) (w : World) (ht : Tab w) (h : laws_FnExactIntervalText.f k a0_0 a0_1 a0_2 a0_3 = some r) :
  Calls Tryd.prog 4 #[.agg #[.int .i64 a0_0, .int .i64 a0_1, .int .i64 a0_2, .int .i64 a0_3]] w fun e w' => e = .returned (.bool r) ∧ Below w.heap.size w w' := by
 have HTAB := Aside0.mk ht
 clear ht
 have hu30 := Tryd.underlying30
 have HB := Aside0.mk (Below.refl w.heap.size w)
 have H : ((laws_toInterval.f a0_0 a0_1 a0_2 a0_3).bind fun bt245 => ((spec_IntervalText.f k bt245.1 bt245.2.1 bt245.2.2.1 bt245.2.2.2).bind fun bt249 => ((laws_toInterval.f a0_0 a0_1 a0_2 a0_3).bind fun bt251 => ((impl_IntervalText.f k bt251.1 bt251.2.1 bt251.2.2.1 bt251.2.2.2).bind fun bt255 => (if bt255.1.toList = bt249.1.toList then (if (bt255.2 != bt249.2) = true then (none) else (some true)) else (none)))))) = some r := h
 clear h
 replace H := Option.bind_eq_some_iff.mp H
 obtain ⟨⟨t245, t246, t247, t248⟩, A20, H⟩ := H
 replace H : ((spec_IntervalText.f k t245 t246 t247 t248).bind fun bt249 => ((laws_toInterval.f a0_0 a0_1 a0_2 a0_3).bind fun bt251 => ((impl_IntervalText.f k bt251.1 bt251.2.1 bt251.2.2.1 bt251.2.2.2).bind fun bt255 => (if bt255.1.toList = bt249.1.toList then (if (bt255.2 != bt249.2) = true then (none) else (some true)) else (none))))) = some r := H
 have A2 := Aside0.mk A20
 clear A20
 replace H := Option.bind_eq_some_iff.mp H
 obtain ⟨⟨t249, t250⟩, A30, H⟩ := H
 replace H : ((laws_toInterval.f a0_0 a0_1 a0_2 a0_3).bind fun bt251 => ((impl_IntervalText.f k bt251.1 bt251.2.1 bt251.2.2.1 bt251.2.2.2).bind fun bt255 => (if bt255.1.toList = t249.toList then (if (bt255.2 != t250) = true then (none) else (some true)) else (none)))) = some r := H
 have A3 := Aside0.mk A30
 clear A30
 replace H := Option.bind_eq_some_iff.mp H
 obtain ⟨⟨t251, t252, t253, t254⟩, A40, H⟩ := H
 replace H : ((impl_IntervalText.f k t251 t252 t253 t254).bind fun bt255 => (if bt255.1.toList = t249.toList then (if (bt255.2 != t250) = true then (none) else (some true)) else (none))) = some r := H
 have A4 := Aside0.mk A40
 clear A40
 replace H := Option.bind_eq_some_iff.mp H
 obtain ⟨⟨t255, t256⟩, A50, H⟩ := H
 replace H : (if t255.toList = t249.toList then (if (t256 != t250) = true then (none) else (some true)) else (none)) = some r := H
 have A5 := Aside0.mk A50
 clear A50
 by_cases c6 : t255.toList = t249.toList
 ·
  rw [if_pos c6] at H
  have c6b0 : (t255.toList == t249.toList) = true := beq_iff_eq.mpr c6
  have c6b1 : (t255.toList != t249.toList) = false := bne_eq_false_iff_eq.mpr c6
  clear c6
  by_cases c7 : (t256 != t250) = true
  ·
   rw [if_pos c7] at H
   exact absurd H (by simp)
  ·
   rw [if_neg c7] at H
   have c7b0 : (t256 != t250) = false := by simpa using c7
   (try (have c7b1 : decide (t256 = t250) = true := by simpa using c7))
   (try (have c7b2 : (t256 == t250) = true := by simpa using c7))
   clear c7
   obtain rfl := Option.some.inj H
   go_enter Tryd.func4, Tryd.ntmps4
   go_wp2_with (first | ((with_reducible refine gate_dst (N := 1) rfl ?_); refine zbe (N := 1) (cs := #[.int .i64 a0_0, .int .i64 a0_1, .int .i64 a0_2, .int .i64 a0_3]) (t := 30) ?_; intro gb244 hg w8 hbox hb; have BK244 := Aside0.mk (hbox); have GW244 := Aside0.mk (zge (zb0 HB) hg); have GE244 := GW244; replace HB := Aside0.mk (below_step (zb0 HB) hb); clear hb hbox hg; have hcz9_0 : w8.cell? ⟨gb244, 0, none⟩ = some (.int .i64 a0_0) := zc BK244 0; have hcz9_1 : w8.cell? ⟨gb244, 1, none⟩ = some (.int .i64 a0_1) := zc BK244 1; have hcz9_2 : w8.cell? ⟨gb244, 2, none⟩ = some (.int .i64 a0_2) := zc BK244 2; have hcz9_3 : w8.cell? ⟨gb244, 3, none⟩ = some (.int .i64 a0_3) := zc BK244 3; have hfz9_0 := blk_frozen BK244.out 0; have hfz9_1 := blk_frozen BK244.out 1; have hfz9_2 := blk_frozen BK244.out 2; have hfz9_3 := blk_frozen BK244.out 3) | ((with_reducible refine gate_callee (f := 9) rfl ?_); refine goesL_ (some 9) rfl rfl Tryd.func9 (by kernel_rfl) rfl #[.agg #[.int .i64 a0_0, .int .i64 a0_1, .int .i64 a0_2, .int .i64 a0_3]] rfl zq6 ?_; (with_reducible refine (laws_toInterval.calls a0_0 a0_1 a0_2 a0_3 t245 t246 t247 t248 _ A2.out).mono ?_); rintro e w10 ⟨rfl, hb⟩; refine ⟨_, rfl, ?_⟩; replace BK244 := Aside0.mk (zbb BK244 hb); replace HB := Aside0.mk (below_step (zb1 HB) hb); (try clear hb); (try clear hb2); (try clear hk); (try clear hi)) | ((with_reducible refine gate_callee (f := 8) rfl ?_); refine goesL_ (some 10) rfl rfl Tryd.func8 (by kernel_rfl) rfl #[.agg #[.int .i64 t245, .int .i64 t246, .int .i64 t247, .int .i64 t248]] rfl zq6 ?_; (with_reducible refine (spec_IntervalText.calls k t245 t246 t247 t248 t249 t250 _ A3.out).mono ?_); rintro e w11 ⟨rfl, hb⟩; refine ⟨_, rfl, ?_⟩; replace BK244 := Aside0.mk (zbb BK244 hb); replace HB := Aside0.mk (below_step (zb1 HB) hb); (try clear hb); (try clear hb2); (try clear hk); (try clear hi); have hcz12_0 : w11.cell? ⟨gb244, 0, none⟩ = some (.int .i64 a0_0) := zc BK244 0; have hcz12_1 : w11.cell? ⟨gb244, 1, none⟩ = some (.int .i64 a0_1) := zc BK244 1; have hcz12_2 : w11.cell? ⟨gb244, 2, none⟩ = some (.int .i64 a0_2) := zc BK244 2; have hcz12_3 : w11.cell? ⟨gb244, 3, none⟩ = some (.int .i64 a0_3) := zc BK244 3; have hfz12_0 := blk_frozen BK244.out 0; have hfz12_1 := blk_frozen BK244.out 1; have hfz12_2 := blk_frozen BK244.out 2; have hfz12_3 := blk_frozen BK244.out 3) | ((with_reducible refine gate_callee (f := 9) rfl ?_); refine goesL_ (some 15) rfl rfl Tryd.func9 (by kernel_rfl) rfl #[.agg #[.int .i64 a0_0, .int .i64 a0_1, .int .i64 a0_2, .int .i64 a0_3]] rfl zq6 ?_; (with_reducible refine (laws_toInterval.calls a0_0 a0_1 a0_2 a0_3 t251 t252 t253 t254 _ A4.out).mono ?_); rintro e w13 ⟨rfl, hb⟩; refine ⟨_, rfl, ?_⟩; replace HB := Aside0.mk (below_step (zb0 HB) hb); (try clear hb); (try clear hb2); (try clear hk); (try clear hi)) | ((with_reducible refine gate_callee (f := 10) rfl ?_); refine goesL_ (some 16) rfl rfl Tryd.func10 (by kernel_rfl) rfl #[.agg #[.int .i64 t251, .int .i64 t252, .int .i64 t253, .int .i64 t254]] rfl zq6 ?_; (with_reducible refine (impl_IntervalText.calls k t251 t252 t253 t254 t255 t256 _ (ztab HTAB (zb1 HB)) A5.out).mono ?_); rintro e w14 ⟨rfl, hb⟩; refine ⟨_, rfl, ?_⟩; replace HB := Aside0.mk (below_step (zb0 HB) hb); (try clear hb); (try clear hb2); (try clear hk); (try clear hi)))
   go_ret
   exact ⟨by first | rfl | (simp [errW_none, errW_some] <;> rfl) | (simp [*, errW_none, errW_some] <;> rfl), (zb0 HB)⟩
 ·
  rw [if_neg c6] at H
  exact absurd H (by simp)
end Go.Proofs.YtlhojnbllfmmoaaDoor.PD
