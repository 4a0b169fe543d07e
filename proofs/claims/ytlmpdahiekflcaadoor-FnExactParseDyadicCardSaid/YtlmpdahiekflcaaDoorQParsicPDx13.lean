-- By wip/mk/drv.py
import Derived.Test.YtlmpdahiekflcaaDoorQParsicPDx0
import Derived.Test.YtlmpdahiekflcaaDoorQParsicPDx1
import Derived.Test.YtlmpdahiekflcaaDoorQParsicPDx2
import Derived.Test.YtlmpdahiekflcaaDoorQParsicPDx3
import Derived.Test.YtlmpdahiekflcaaDoorQParsicPDx8
import Derived.Test.YtlmpdahiekflcaaDoorQParsicPDx12
namespace Go.Proofs.YtlmpdahiekflcaaDoor.PD
open Go.RowKit Go.Proofs.YtlmpdahiekflcaaDoorW.PrintWords Go.Proofs.YtlmpdahiekflcaaDoorW.PrintLast Go.Proofs.YtlmpdahiekflcaaDoorW.PrintMore
attribute [local go_sem] max2_int min2_int max_two min_two max_three min_three max_four min_four
set_option linter.unusedVariables false
set_option linter.unusedSimpArgs false
/-! ### laws_FnExactParseDyadic: function 3 -/
set_option maxHeartbeats 8000000 in
set_option maxRecDepth 100000 in
theorem laws_FnExactParseDyadic.calls (k : Nat) (a0 : ByteArray) (r : Bool) (w : World) (ht : Tab w) (h : laws_FnExactParseDyadic.f k a0 = some r) :
  Calls Tryd.prog 3 #[.string a0] w fun e w' => e = .returned (.bool r) ∧ Below w.heap.size w w' := by
 have HTAB := Aside0.mk ht
 clear ht
 have hu23 := Tryd.underlying23
 have HB := Aside0.mk (Below.refl w.heap.size w)
 have H : (if (a0.size : Int) > 1000000 then (some true) else ((spec_ParseDyadic.f k a0).bind fun bt186 => ((impl_ParseDyadic.f a0).bind fun bt190 => ((laws_eqDyadic.f bt190.1 bt190.2.1 bt186.1 bt186.2.1).bind fun t194 => (if t194 = true then (if (bt190.2.2 != bt186.2.2) = true then (none) else (some true)) else (none)))))) = some r := h
 clear h
 by_cases c2 : (a0.size : Int) > 1000000
 ·
  rw [if_pos c2] at H
  have c2b0 : decide (1000000 < (a0.size : Int)) = true := decide_eq_true c2
  have c2b1 : decide (1000000 < a0.size) = true := decide_eq_true (by omega)
  clear c2
  obtain rfl := Option.some.inj H
  go_enter Tryd.func3, Tryd.ntmps3
  go_wp2
  go_ret
  exact ⟨by first | rfl | (simp [errW_none, errW_some] <;> rfl) | (simp [*, errW_none, errW_some] <;> rfl), (zb0 HB)⟩
 ·
  rw [if_neg c2] at H
  have c2b0 : decide (1000000 < (a0.size : Int)) = false := decide_eq_false c2
  have c2b1 : decide (1000000 < a0.size) = false := decide_eq_false (by omega)
  clear c2
  replace H := Option.bind_eq_some_iff.mp H
  obtain ⟨⟨t186, t187, t188⟩, A30, H⟩ := H
  replace H : ((impl_ParseDyadic.f a0).bind fun bt190 => ((laws_eqDyadic.f bt190.1 bt190.2.1 t186 t187).bind fun t194 => (if t194 = true then (if (bt190.2.2 != t188) = true then (none) else (some true)) else (none)))) = some r := H
  have A3 := Aside0.mk A30
  clear A30
  replace H := Option.bind_eq_some_iff.mp H
  obtain ⟨⟨t190, t191, t192⟩, A40, H⟩ := H
  replace H : ((laws_eqDyadic.f t190 t191 t186 t187).bind fun t194 => (if t194 = true then (if (t192 != t188) = true then (none) else (some true)) else (none))) = some r := H
  have A4 := Aside0.mk A40
  clear A40
  replace H := Option.bind_eq_some_iff.mp H
  obtain ⟨t194, A50, H⟩ := H
  replace H : (if t194 = true then (if (t192 != t188) = true then (none) else (some true)) else (none)) = some r := H
  have A5 := Aside0.mk A50
  clear A50
  by_cases c6 : t194 = true
  ·
   subst c6
   have H1 : (if (t192 != t188) = true then (none) else (some true)) = some r := by rw [if_pos rfl] at H; exact H
   clear H
   have H := H1
   clear H1
   by_cases c7 : (t192 != t188) = true
   ·
    rw [if_pos c7] at H
    exact absurd H (by simp)
   ·
    rw [if_neg c7] at H
    have c7b0 : (t192 != t188) = false := by simpa using c7
    (try (have c7b1 : decide (t192 = t188) = true := by simpa using c7))
    (try (have c7b2 : (t192 == t188) = true := by simpa using c7))
    clear c7
    obtain rfl := Option.some.inj H
    go_enter Tryd.func3, Tryd.ntmps3
    go_wp2_with (first | ((with_reducible refine gate_callee (f := 4) rfl ?_); refine goesL_ (some 12) rfl rfl Tryd.func4 (by kernel_rfl) rfl #[.string a0] rfl zq6 ?_; (with_reducible refine (spec_ParseDyadic.calls k a0 t186 t187 t188 _ A3.out).mono ?_); rintro e w8 ⟨rfl, hb⟩; refine ⟨_, rfl, ?_⟩; replace HB := Aside0.mk (below_step (zb0 HB) hb); (try clear hb); (try clear hb2); (try clear hk); (try clear hi)) | ((with_reducible refine gate_dst (N := 3) rfl ?_); refine zbe (N := 3) (cs := #[.int .i64 0, .int .i64 0]) (t := 23) ?_; intro gb189 hg w9 hbox hb; have BK189 := Aside0.mk (hbox); have GW189 := Aside0.mk (zge (zb0 HB) hg); have GE189 := GW189; replace HB := Aside0.mk (below_step (zb0 HB) hb); clear hb hbox hg; have hcz10_0 : w9.cell? ⟨gb189, 0, none⟩ = some (.int .i64 0) := zc BK189 0; have hcz10_1 : w9.cell? ⟨gb189, 1, none⟩ = some (.int .i64 0) := zc BK189 1; have hfz10_0 := blk_frozen BK189.out 0; have hfz10_1 := blk_frozen BK189.out 1) | ((with_reducible refine gate_callee (f := 5) rfl ?_); refine goesL_ (some 17) rfl rfl Tryd.func5 (by kernel_rfl) rfl #[.string a0] rfl zq6 ?_; (with_reducible refine (impl_ParseDyadic.calls a0 t190 t191 t192 _ (ztab HTAB (zb1 HB)) A4.out).mono ?_); rintro e w11 ⟨rfl, hb⟩; refine ⟨_, rfl, ?_⟩; replace BK189 := Aside0.mk (blk_below (g := gb189) (o := .cells #[.int .i64 t186, .int .i64 t187] 23 (0, 0)) (by (with_reducible repeat (first | refine blk_drewN ?_ _ | refine blk_drew ?_ | refine blk_alloc ?_ _)); refine blk_put (cs := #[.int .i64 t186, .int .i64 0]) ?_ 1 _ rfl; (with_reducible repeat (first | refine blk_drewN ?_ _ | refine blk_drew ?_ | refine blk_alloc ?_ _)); refine blk_put (cs := #[.int .i64 0, .int .i64 0]) ?_ 0 _ rfl; (with_reducible repeat (first | refine blk_drewN ?_ _ | refine blk_drew ?_ | refine blk_alloc ?_ _)); exact BK189.out) hb); replace HB := Aside0.mk (below_step (zb1 HB) hb); (try clear hb); (try clear hb2); (try clear hk); (try clear hi)) | ((with_reducible refine gate_dst (N := 5) rfl ?_); refine zbe (N := 5) (cs := #[.int .i64 0, .int .i64 0]) (t := 23) ?_; intro gb193 hg w12 hbox hb; have BK193 := Aside0.mk (hbox); have GW193 := Aside0.mk (zge (zb1 HB) hg); have GE193 := GW193; have NB189_193 := Aside0.mk (zlt BK189 hg); have NB193_189 := Aside0.mk (zgt BK189 hg); replace BK189 := Aside0.mk (zbb BK189 hb); replace HB := Aside0.mk (below_step (zb1 HB) hb); clear hb hbox hg; have hnb13 := NB193_189.out; have hnc13 := NB189_193.out; have hcz14_0 : w12.cell? ⟨gb193, 0, none⟩ = some (.int .i64 0) := zc BK193 0; have hcz14_1 : w12.cell? ⟨gb193, 1, none⟩ = some (.int .i64 0) := zc BK193 1; have hfz14_0 := blk_frozen BK193.out 0; have hfz14_1 := blk_frozen BK193.out 1; have hcz15_0 : w12.cell? ⟨gb189, 0, none⟩ = some (.int .i64 t186) := zc BK189 0; have hcz15_1 : w12.cell? ⟨gb189, 1, none⟩ = some (.int .i64 t187) := zc BK189 1; have hfz15_0 := blk_frozen BK189.out 0; have hfz15_1 := blk_frozen BK189.out 1) | ((with_reducible refine gate_callee (f := 6) rfl ?_); refine goesL_ (some 22) rfl rfl Tryd.func6 (by kernel_rfl) rfl #[.agg #[.int .i64 t190, .int .i64 t191], .agg #[.int .i64 t186, .int .i64 t187]] rfl zq6 ?_; (with_reducible refine (laws_eqDyadic.calls t190 t191 t186 t187 true _ A5.out).mono ?_); rintro e w16 ⟨rfl, hb⟩; refine ⟨_, rfl, ?_⟩; replace BK189 := Aside0.mk (blk_below (g := gb189) (o := .cells #[.int .i64 t186, .int .i64 t187] 23 (0, 0)) (zq5 BK189) hb); replace BK193 := Aside0.mk (blk_below (g := gb193) (o := .cells #[.int .i64 t190, .int .i64 t191] 23 (0, 0)) (by (with_reducible repeat (first | refine blk_drewN ?_ _ | refine blk_drew ?_ | refine blk_alloc ?_ _)); refine blk_put (cs := #[.int .i64 t190, .int .i64 0]) ?_ 1 _ rfl; (with_reducible repeat (first | refine blk_drewN ?_ _ | refine blk_drew ?_ | refine blk_alloc ?_ _)); refine blk_put (cs := #[.int .i64 0, .int .i64 0]) ?_ 0 _ rfl; (with_reducible repeat (first | refine blk_drewN ?_ _ | refine blk_drew ?_ | refine blk_alloc ?_ _)); exact BK193.out) hb); replace HB := Aside0.mk (below_step (zb1 HB) hb); (try clear hb); (try clear hb2); (try clear hk); (try clear hi)))
    go_ret
    exact ⟨by first | rfl | (simp [errW_none, errW_some] <;> rfl) | (simp [*, errW_none, errW_some] <;> rfl), (zb1 HB)⟩
  ·
   replace c6 := Bool.eq_false_iff.mpr c6
   subst c6
   have H1 : (none) = some r := by rw [if_neg (show ¬ (false = true) by decide)] at H; exact H
   clear H
   have H := H1
   clear H1
   exact absurd H (by simp)
/-- THE ONE PURE STATEMENT of laws_FnExactParseDyadic: yours. -/
def laws_FnExactParseDyadic.Pure : Prop := ∀ (a0 : ByteArray), a0.size ≤ 140737488351232 → ∃ k, laws_FnExactParseDyadic.f k a0 = some true
theorem laws_FnExactParseDyadic.walk (P : laws_FnExactParseDyadic.Pure) (a0 : ByteArray) (w : World) (ht : Tab w) (w0 : a0.size ≤ 140737488351232) :
  Calls Tryd.prog 3 #[.string a0] w fun e w' => e = .returned (.bool true) ∧ Below w.heap.size w w' := by
 obtain ⟨k, h⟩ := P a0 w0
 refine (laws_FnExactParseDyadic.calls k a0 true w ht h).mono ?_
 rintro e w' ⟨rfl, hd⟩
 exact ⟨rfl, hd⟩
end Go.Proofs.YtlmpdahiekflcaaDoor.PD
