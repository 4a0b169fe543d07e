-- By wip/mk/drv.py
import Derived.Test.YtalaokjbbeepeaaDoorQTermxtPDx0
import Derived.Test.YtalaokjbbeepeaaDoorQTermxtPDx1
import Derived.Test.YtalaokjbbeepeaaDoorQTermxtPDx2
import Derived.Test.YtalaokjbbeepeaaDoorQTermxtPDx7
import Derived.Test.YtalaokjbbeepeaaDoorQTermxtPDx12
namespace Go.Proofs.YtalaokjbbeepeaaDoor.PD
open Go.RowKit Go.Proofs.YtalaokjbbeepeaaDoorW.PrintWords Go.Proofs.YtalaokjbbeepeaaDoorW.PrintLast Go.Proofs.YtalaokjbbeepeaaDoorW.PrintMore
attribute [local go_sem] max2_int min2_int max_two min_two max_three min_three max_four min_four
set_option linter.unusedVariables false
set_option linter.unusedSimpArgs false
/-! ### laws_FnExactTermText: function 3 -/
set_option maxHeartbeats 8000000 in
set_option maxRecDepth 100000 in
theorem laws_FnExactTermText.calls (k : Nat) (a0_0 : Int) (a0_1 : Int) (a0_2 : Int) (a0_3 : Int) (r : Bool) (w : World) (ht : Tab w) (h : laws_FnExactTermText.f k a0_0 a0_1 a0_2 a0_3 = some r) :
  Calls Tryd.prog 3 #[.agg #[.int .i64 a0_0, .int .i64 a0_1, .int .i64 a0_2, .int .i64 a0_3]] w fun e w' => e = .returned (.bool r) ∧ Below w.heap.size w w' := by
 have HTAB := Aside0.mk ht
 clear ht
 have hu23 := Tryd.underlying23
 have HB := Aside0.mk (Below.refl w.heap.size w)
 have H : ((laws_toTerm.f a0_0 a0_1 a0_2 a0_3).bind fun bt179 => ((spec_TermText.f k bt179.1 bt179.2.1 bt179.2.2.1 bt179.2.2.2).bind fun bt183 => ((laws_toTerm.f a0_0 a0_1 a0_2 a0_3).bind fun bt185 => ((impl_TermText.f k bt185.1 bt185.2.1 bt185.2.2.1 bt185.2.2.2).bind fun bt189 => (if bt189.1.toList = bt183.1.toList then (if (bt189.2 != bt183.2) = true then (none) else (some true)) else (none)))))) = some r := h
 clear h
 replace H := Option.bind_eq_some_iff.mp H
 obtain ⟨⟨t179, t180, t181, t182⟩, A20, H⟩ := H
 replace H : ((spec_TermText.f k t179 t180 t181 t182).bind fun bt183 => ((laws_toTerm.f a0_0 a0_1 a0_2 a0_3).bind fun bt185 => ((impl_TermText.f k bt185.1 bt185.2.1 bt185.2.2.1 bt185.2.2.2).bind fun bt189 => (if bt189.1.toList = bt183.1.toList then (if (bt189.2 != bt183.2) = true then (none) else (some true)) else (none))))) = some r := H
 have A2 := Aside0.mk A20
 clear A20
 replace H := Option.bind_eq_some_iff.mp H
 obtain ⟨⟨t183, t184⟩, A30, H⟩ := H
 replace H : ((laws_toTerm.f a0_0 a0_1 a0_2 a0_3).bind fun bt185 => ((impl_TermText.f k bt185.1 bt185.2.1 bt185.2.2.1 bt185.2.2.2).bind fun bt189 => (if bt189.1.toList = t183.toList then (if (bt189.2 != t184) = true then (none) else (some true)) else (none)))) = some r := H
 have A3 := Aside0.mk A30
 clear A30
 replace H := Option.bind_eq_some_iff.mp H
 obtain ⟨⟨t185, t186, t187, t188⟩, A40, H⟩ := H
 replace H : ((impl_TermText.f k t185 t186 t187 t188).bind fun bt189 => (if bt189.1.toList = t183.toList then (if (bt189.2 != t184) = true then (none) else (some true)) else (none))) = some r := H
 have A4 := Aside0.mk A40
 clear A40
 replace H := Option.bind_eq_some_iff.mp H
 obtain ⟨⟨t189, t190⟩, A50, H⟩ := H
 replace H : (if t189.toList = t183.toList then (if (t190 != t184) = true then (none) else (some true)) else (none)) = some r := H
 have A5 := Aside0.mk A50
 clear A50
 by_cases c6 : t189.toList = t183.toList
 ·
  rw [if_pos c6] at H
  have c6b0 : (t189.toList == t183.toList) = true := beq_iff_eq.mpr c6
  have c6b1 : (t189.toList != t183.toList) = false := bne_eq_false_iff_eq.mpr c6
  clear c6
  by_cases c7 : (t190 != t184) = true
  ·
   rw [if_pos c7] at H
   exact absurd H (by simp)
  ·
   rw [if_neg c7] at H
   have c7b0 : (t190 != t184) = false := by simpa using c7
   (try (have c7b1 : decide (t190 = t184) = true := by simpa using c7))
   (try (have c7b2 : (t190 == t184) = true := by simpa using c7))
   clear c7
   obtain rfl := Option.some.inj H
   go_enter Tryd.func3, Tryd.ntmps3
   go_wp2_with (first | ((with_reducible refine gate_dst (N := 1) rfl ?_); refine zbe (N := 1) (cs := #[.int .i64 a0_0, .int .i64 a0_1, .int .i64 a0_2, .int .i64 a0_3]) (t := 23) ?_; intro gb178 hg w8 hbox hb; have BK178 := Aside0.mk (hbox); have GW178 := Aside0.mk (zge (zb0 HB) hg); have GE178 := GW178; replace HB := Aside0.mk (below_step (zb0 HB) hb); clear hb hbox hg; have hcz9_0 : w8.cell? ⟨gb178, 0, none⟩ = some (.int .i64 a0_0) := zc BK178 0; have hcz9_1 : w8.cell? ⟨gb178, 1, none⟩ = some (.int .i64 a0_1) := zc BK178 1; have hcz9_2 : w8.cell? ⟨gb178, 2, none⟩ = some (.int .i64 a0_2) := zc BK178 2; have hcz9_3 : w8.cell? ⟨gb178, 3, none⟩ = some (.int .i64 a0_3) := zc BK178 3; have hfz9_0 := blk_frozen BK178.out 0; have hfz9_1 := blk_frozen BK178.out 1; have hfz9_2 := blk_frozen BK178.out 2; have hfz9_3 := blk_frozen BK178.out 3) | ((with_reducible refine gate_callee (f := 6) rfl ?_); refine goesL_ (some 9) rfl rfl Tryd.func6 (by kernel_rfl) rfl #[.agg #[.int .i64 a0_0, .int .i64 a0_1, .int .i64 a0_2, .int .i64 a0_3]] rfl zq6 ?_; (with_reducible refine (laws_toTerm.calls a0_0 a0_1 a0_2 a0_3 t179 t180 t181 t182 _ A2.out).mono ?_); rintro e w10 ⟨rfl, hb⟩; refine ⟨_, rfl, ?_⟩; replace BK178 := Aside0.mk (zbb BK178 hb); replace HB := Aside0.mk (below_step (zb1 HB) hb); (try clear hb); (try clear hb2); (try clear hk); (try clear hi)) | ((with_reducible refine gate_callee (f := 5) rfl ?_); refine goesL_ (some 10) rfl rfl Tryd.func5 (by kernel_rfl) rfl #[.agg #[.int .i64 t179, .int .i64 t180, .int .i64 t181, .int .i64 t182]] rfl zq6 ?_; (with_reducible refine (spec_TermText.calls k t179 t180 t181 t182 t183 t184 _ A3.out).mono ?_); rintro e w11 ⟨rfl, hb⟩; refine ⟨_, rfl, ?_⟩; replace BK178 := Aside0.mk (zbb BK178 hb); replace HB := Aside0.mk (below_step (zb1 HB) hb); (try clear hb); (try clear hb2); (try clear hk); (try clear hi); have hcz12_0 : w11.cell? ⟨gb178, 0, none⟩ = some (.int .i64 a0_0) := zc BK178 0; have hcz12_1 : w11.cell? ⟨gb178, 1, none⟩ = some (.int .i64 a0_1) := zc BK178 1; have hcz12_2 : w11.cell? ⟨gb178, 2, none⟩ = some (.int .i64 a0_2) := zc BK178 2; have hcz12_3 : w11.cell? ⟨gb178, 3, none⟩ = some (.int .i64 a0_3) := zc BK178 3; have hfz12_0 := blk_frozen BK178.out 0; have hfz12_1 := blk_frozen BK178.out 1; have hfz12_2 := blk_frozen BK178.out 2; have hfz12_3 := blk_frozen BK178.out 3) | ((with_reducible refine gate_callee (f := 6) rfl ?_); refine goesL_ (some 15) rfl rfl Tryd.func6 (by kernel_rfl) rfl #[.agg #[.int .i64 a0_0, .int .i64 a0_1, .int .i64 a0_2, .int .i64 a0_3]] rfl zq6 ?_; (with_reducible refine (laws_toTerm.calls a0_0 a0_1 a0_2 a0_3 t185 t186 t187 t188 _ A4.out).mono ?_); rintro e w13 ⟨rfl, hb⟩; refine ⟨_, rfl, ?_⟩; replace HB := Aside0.mk (below_step (zb0 HB) hb); (try clear hb); (try clear hb2); (try clear hk); (try clear hi)) | ((with_reducible refine gate_callee (f := 7) rfl ?_); refine goesL_ (some 16) rfl rfl Tryd.func7 (by kernel_rfl) rfl #[.agg #[.int .i64 t185, .int .i64 t186, .int .i64 t187, .int .i64 t188]] rfl zq6 ?_; (with_reducible refine (impl_TermText.calls k t185 t186 t187 t188 t189 t190 _ (ztab HTAB (zb1 HB)) A5.out).mono ?_); rintro e w14 ⟨rfl, hb⟩; refine ⟨_, rfl, ?_⟩; replace HB := Aside0.mk (below_step (zb0 HB) hb); (try clear hb); (try clear hb2); (try clear hk); (try clear hi)))
   go_ret
   exact ⟨by first | rfl | (simp [errW_none, errW_some] <;> rfl) | (simp [*, errW_none, errW_some] <;> rfl), (zb0 HB)⟩
 ·
  rw [if_neg c6] at H
  exact absurd H (by simp)
end Go.Proofs.YtalaokjbbeepeaaDoor.PD
