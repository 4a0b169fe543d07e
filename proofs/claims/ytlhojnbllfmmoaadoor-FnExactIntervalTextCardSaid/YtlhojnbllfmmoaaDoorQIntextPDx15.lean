-- By wip/mk/drv.py
import Derived.Test.YtlhojnbllfmmoaaDoorQIntextPDx0
import Derived.Test.YtlhojnbllfmmoaaDoorQIntextPDx1
import Derived.Test.YtlhojnbllfmmoaaDoorQIntextPDx3
namespace Go.Proofs.YtlhojnbllfmmoaaDoor.PD
open Go.RowKit Go.Proofs.YtlhojnbllfmmoaaDoorW.PrintWords Go.Proofs.YtlhojnbllfmmoaaDoorW.PrintLast Go.Proofs.YtlhojnbllfmmoaaDoorW.PrintMore
attribute [local go_sem] max2_int min2_int max_two min_two max_three min_three max_four min_four
set_option linter.unusedVariables false
set_option linter.unusedSimpArgs false
/-! ### impl_compareWide: function 32 -/
set_option maxHeartbeats 8000000 in
set_option maxRecDepth 100000 in
theorem impl_compareWide.calls (k : Nat) (a0_0 : Bool) (a0_1 : Int) (a0_2 : Int) (a1_0 : Bool) (a1_1 : Int) (a1_2 : Int) (r : Int) (w : World) (h : impl_compareWide.f k a0_0 a0_1 a0_2 a1_0 a1_1 a1_2 = some r) :
  Calls Tryd.prog 32 #[.agg #[.bool a0_0, .int .u64 a0_1, .int .u64 a0_2], .agg #[.bool a1_0, .int .u64 a1_1, .int .u64 a1_2]] w fun e w' => e = .returned (.int .i64 r) ∧ Below w.heap.size w w' := by
 have hu52 := Tryd.underlying52
 have HB := Aside0.mk (Below.refl w.heap.size w)
 have H : ((impl_wide_isZero.f a0_0 a0_1 a0_2).bind fun t211 => (if t211 = true then ((impl_wide_isZero.f a1_0 a1_1 a1_2).bind fun t212 => (impl_compareWide.j0 k t212 a0_0 a0_1 a0_2 a1_0 a1_1 a1_2)) else (impl_compareWide.j0 k false a0_0 a0_1 a0_2 a1_0 a1_1 a1_2))) = some r := h
 clear h
 have HC3 := Aside0.mk H
 clear H
 go_enter Tryd.func32, Tryd.ntmps32
 go_upto_region 1 with (first | ((with_reducible refine gate_dst (N := 2) rfl ?_); refine zbe (N := 2) (cs := #[.bool a0_0, .int .u64 a0_1, .int .u64 a0_2]) (t := 52) ?_; intro gb209 hg w4 hbox hb; have BK209 := Aside0.mk (hbox); have GW209 := Aside0.mk (zge (zb0 HB) hg); have GE209 := GW209; replace HB := Aside0.mk (below_step (zb0 HB) hb); clear hb hbox hg) | ((with_reducible refine gate_dst (N := 3) rfl ?_); refine zbe (N := 3) (cs := #[.bool a1_0, .int .u64 a1_1, .int .u64 a1_2]) (t := 52) ?_; intro gb210 hg w5 hbox hb; have BK210 := Aside0.mk (hbox); have GW210 := Aside0.mk (zge (zb1 HB) hg); have GE210 := GW210; have NB209_210 := Aside0.mk (zlt BK209 hg); have NB210_209 := Aside0.mk (zgt BK209 hg); replace BK209 := Aside0.mk (zbb BK209 hb); replace HB := Aside0.mk (below_step (zb1 HB) hb); clear hb hbox hg))
 (try simp only [Act.put, List.setIfInBounds_toArray, List.set_cons_zero, List.set_cons_succ])
 go_cut [5] (fun v5 wc => ∃ (kq : Nat) (x5_2 : Bool), v5 = .bool x5_2 ∧ Aside0 (impl_compareWide.j0 kq x5_2 a0_0 a0_1 a0_2 a1_0 a1_1 a1_2 = some r) ∧ Aside0 (kq ≤ k) ∧ Aside0 (wc.heap[gb209]? = some (.cells #[.bool a0_0, .int .u64 a0_1, .int .u64 a0_2] 52 (0, 0))) ∧ Aside0 (wc.heap[gb210]? = some (.cells #[.bool a1_0, .int .u64 a1_1, .int .u64 a1_2] 52 (0, 0))) ∧ Aside0 (Below w.heap.size w wc))
 case first =>
  have H := HC3.out
  clear HC3
  replace H := Option.bind_eq_some_iff.mp H
  obtain ⟨t211, A60, H⟩ := H
  replace H : (if t211 = true then ((impl_wide_isZero.f a1_0 a1_1 a1_2).bind fun t212 => (impl_compareWide.j0 k t212 a0_0 a0_1 a0_2 a1_0 a1_1 a1_2)) else (impl_compareWide.j0 k false a0_0 a0_1 a0_2 a1_0 a1_1 a1_2)) = some r := H
  have A6 := Aside0.mk A60
  clear A60
  by_cases c7 : t211 = true
  ·
   subst c7
   have H1 : ((impl_wide_isZero.f a1_0 a1_1 a1_2).bind fun t212 => (impl_compareWide.j0 k t212 a0_0 a0_1 a0_2 a1_0 a1_1 a1_2)) = some r := by rw [if_pos rfl] at H; exact H
   clear H
   have H := H1
   clear H1
   replace H := Option.bind_eq_some_iff.mp H
   obtain ⟨t212, A80, H⟩ := H
   replace H : (impl_compareWide.j0 k t212 a0_0 a0_1 a0_2 a1_0 a1_1 a1_2) = some r := H
   have A8 := Aside0.mk A80
   clear A80
   have H' := Aside0.mk H
   clear H
   have hnb9 := NB209_210.out
   have hnc9 := NB210_209.out
   have hcz10_0 : w5.cell? ⟨gb209, 0, none⟩ = some (.bool a0_0) := zc BK209 0
   have hcz10_1 : w5.cell? ⟨gb209, 1, none⟩ = some (.int .u64 a0_1) := zc BK209 1
   have hcz10_2 : w5.cell? ⟨gb209, 2, none⟩ = some (.int .u64 a0_2) := zc BK209 2
   have hfz10_0 := blk_frozen BK209.out 0
   have hfz10_1 := blk_frozen BK209.out 1
   have hfz10_2 := blk_frozen BK209.out 2
   go_wp2_with (first | ((with_reducible refine gate_callee (f := 37) rfl ?_); refine goesL_ (some 7) rfl rfl Tryd.func37 (by kernel_rfl) rfl #[.agg #[.bool a0_0, .int .u64 a0_1, .int .u64 a0_2]] rfl zq6 ?_; (with_reducible refine (impl_wide_isZero.calls a0_0 a0_1 a0_2 true _ A6.out).mono ?_); rintro e w11 ⟨rfl, hb⟩; refine ⟨_, rfl, ?_⟩; replace BK209 := Aside0.mk (zbb BK209 hb); replace BK210 := Aside0.mk (zbb BK210 hb); replace HB := Aside0.mk (below_step (zb1 HB) hb); (try clear hb); (try clear hb2); (try clear hk); (try clear hi); have hcz12_0 : w11.cell? ⟨gb210, 0, none⟩ = some (.bool a1_0) := zc BK210 0; have hcz12_1 : w11.cell? ⟨gb210, 1, none⟩ = some (.int .u64 a1_1) := zc BK210 1; have hcz12_2 : w11.cell? ⟨gb210, 2, none⟩ = some (.int .u64 a1_2) := zc BK210 2; have hfz12_0 := blk_frozen BK210.out 0; have hfz12_1 := blk_frozen BK210.out 1; have hfz12_2 := blk_frozen BK210.out 2) | (go_at_call 37; (with_reducible refine (impl_wide_isZero.calls a1_0 a1_1 a1_2 t212 _ A8.out).mono ?_); rintro e w13 ⟨rfl, hb⟩; replace BK209 := Aside0.mk (zbb BK209 hb); replace BK210 := Aside0.mk (zbb BK210 hb); replace HB := Aside0.mk (below_step (zb1 HB) hb); (try clear hb); (try clear hb2); (try clear hk); (try clear hi)))
   go_meet
   case rel => exact ⟨_, (t212), (by first | rfl | (simp; done) | (simp [*]; done)), H', ⟨by first | omega | exact Nat.le_refl _⟩, ⟨by (with_reducible repeat (first | refine blk_drewN ?_ _ | refine blk_drew ?_ | refine blk_alloc ?_ _)); exact BK209.out⟩, ⟨by (with_reducible repeat (first | refine blk_drewN ?_ _ | refine blk_drew ?_ | refine blk_alloc ?_ _)); exact BK210.out⟩, ⟨(zb1 HB)⟩⟩
  ·
   replace c7 := Bool.eq_false_iff.mpr c7
   subst c7
   have H1 : (impl_compareWide.j0 k false a0_0 a0_1 a0_2 a1_0 a1_1 a1_2) = some r := by rw [if_neg (show ¬ (false = true) by decide)] at H; exact H
   clear H
   have H := H1
   clear H1
   have H' := Aside0.mk H
   clear H
   have hnb14 := NB209_210.out
   have hnc14 := NB210_209.out
   have hcz15_0 : w5.cell? ⟨gb209, 0, none⟩ = some (.bool a0_0) := zc BK209 0
   have hcz15_1 : w5.cell? ⟨gb209, 1, none⟩ = some (.int .u64 a0_1) := zc BK209 1
   have hcz15_2 : w5.cell? ⟨gb209, 2, none⟩ = some (.int .u64 a0_2) := zc BK209 2
   have hfz15_0 := blk_frozen BK209.out 0
   have hfz15_1 := blk_frozen BK209.out 1
   have hfz15_2 := blk_frozen BK209.out 2
   go_wp2_with (first | ((with_reducible refine gate_callee (f := 37) rfl ?_); refine goesL_ (some 7) rfl rfl Tryd.func37 (by kernel_rfl) rfl #[.agg #[.bool a0_0, .int .u64 a0_1, .int .u64 a0_2]] rfl zq6 ?_; (with_reducible refine (impl_wide_isZero.calls a0_0 a0_1 a0_2 false _ A6.out).mono ?_); rintro e w16 ⟨rfl, hb⟩; refine ⟨_, rfl, ?_⟩; replace BK209 := Aside0.mk (zbb BK209 hb); replace BK210 := Aside0.mk (zbb BK210 hb); replace HB := Aside0.mk (below_step (zb1 HB) hb); (try clear hb); (try clear hb2); (try clear hk); (try clear hi)))
   go_meet
   case rel => exact ⟨_, (false), (by first | rfl | (simp; done) | (simp [*]; done)), H', ⟨by first | omega | exact Nat.le_refl _⟩, ⟨by (with_reducible repeat (first | refine blk_drewN ?_ _ | refine blk_drew ?_ | refine blk_alloc ?_ _)); exact BK209.out⟩, ⟨by (with_reducible repeat (first | refine blk_drewN ?_ _ | refine blk_drew ?_ | refine blk_alloc ?_ _)); exact BK210.out⟩, ⟨(zb1 HB)⟩⟩
 case rest =>
  clear HC3
  try clear c1
  try clear p2
  try clear c3
  try clear c7
  try clear c9
  try clear c14
  try clear hcz10_0
  try clear hcz10_1
  try clear hcz10_2
  try clear hcz12_0
  try clear hcz12_1
  try clear hcz12_2
  try clear hcz15_0
  try clear hcz15_1
  try clear hcz15_2
  try clear hfz10_0
  try clear hfz10_1
  try clear hfz10_2
  try clear hfz12_0
  try clear hfz12_1
  try clear hfz12_2
  try clear hfz15_0
  try clear hfz15_1
  try clear hfz15_2
  obtain ⟨kq, x5_2, rfl, HA, HJ2, BK209, BK210, HB⟩ := hcut
  cases kq with
  | zero => exact absurd HA.out (by simp [impl_compareWide.j0])
  | succ kj2 =>
   have H := HA.out
   clear HA
   simp only [impl_compareWide.j0] at H
   by_cases c17 : x5_2 = true
   ·
    subst c17
    have H1 : (some 0) = some r := by rw [if_pos rfl] at H; exact H
    clear H
    have H := H1
    clear H1
    obtain rfl := Option.some.inj H
    go_wp2
    go_ret
    exact ⟨by first | rfl | (simp [errW_none, errW_some] <;> rfl) | (simp [*, errW_none, errW_some] <;> rfl), (zb1 HB)⟩
   ·
    replace c17 := Bool.eq_false_iff.mpr c17
    subst c17
    have H1 : (if (a0_0 != a1_0) = true then (if a0_0 = true then (some (-1)) else (some 1)) else (if a0_0 = true then ((impl_compareSizes.f kj2 a1_0 a1_1 a1_2 a0_0 a0_1 a0_2).bind fun t213 => (some t213)) else ((impl_compareSizes.f kj2 a0_0 a0_1 a0_2 a1_0 a1_1 a1_2).bind fun t214 => (some t214)))) = some r := by rw [if_neg (show ¬ (false = true) by decide)] at H; exact H
    clear H
    have H := H1
    clear H1
    by_cases c18 : (a0_0 != a1_0) = true
    ·
     rw [if_pos c18] at H
     have c18b0 : (a0_0 != a1_0) = true := c18
     (try (have c18b1 : decide (a0_0 = a1_0) = false := by simpa using c18))
     (try (have c18b2 : (a0_0 == a1_0) = false := by simpa using c18))
     (try (have c18b3 : ¬ (a0_0 = a1_0) := by simpa using c18))
     clear c18
     by_cases c19 : a0_0 = true
     ·
      subst c19
      have H1 : (some (-1)) = some r := by rw [if_pos rfl] at H; exact H
      clear H
      have H := H1
      clear H1
      obtain rfl := Option.some.inj H
      have hnb20 := NB209_210.out
      have hnc20 := NB210_209.out
      have hcz21_0 : wc.cell? ⟨gb209, 0, none⟩ = some (.bool true) := zc BK209 0
      have hcz21_1 : wc.cell? ⟨gb209, 1, none⟩ = some (.int .u64 a0_1) := zc BK209 1
      have hcz21_2 : wc.cell? ⟨gb209, 2, none⟩ = some (.int .u64 a0_2) := zc BK209 2
      have hfz21_0 := blk_frozen BK209.out 0
      have hfz21_1 := blk_frozen BK209.out 1
      have hfz21_2 := blk_frozen BK209.out 2
      have hcz22_0 : wc.cell? ⟨gb210, 0, none⟩ = some (.bool a1_0) := zc BK210 0
      have hcz22_1 : wc.cell? ⟨gb210, 1, none⟩ = some (.int .u64 a1_1) := zc BK210 1
      have hcz22_2 : wc.cell? ⟨gb210, 2, none⟩ = some (.int .u64 a1_2) := zc BK210 2
      have hfz22_0 := blk_frozen BK210.out 0
      have hfz22_1 := blk_frozen BK210.out 1
      have hfz22_2 := blk_frozen BK210.out 2
      go_wp2
      go_ret
      exact ⟨by first | rfl | (simp [errW_none, errW_some] <;> rfl) | (simp [*, errW_none, errW_some] <;> rfl), (zb1 HB)⟩
     ·
      replace c19 := Bool.eq_false_iff.mpr c19
      subst c19
      have H1 : (some 1) = some r := by rw [if_neg (show ¬ (false = true) by decide)] at H; exact H
      clear H
      have H := H1
      clear H1
      obtain rfl := Option.some.inj H
      have hnb23 := NB209_210.out
      have hnc23 := NB210_209.out
      have hcz24_0 : wc.cell? ⟨gb209, 0, none⟩ = some (.bool false) := zc BK209 0
      have hcz24_1 : wc.cell? ⟨gb209, 1, none⟩ = some (.int .u64 a0_1) := zc BK209 1
      have hcz24_2 : wc.cell? ⟨gb209, 2, none⟩ = some (.int .u64 a0_2) := zc BK209 2
      have hfz24_0 := blk_frozen BK209.out 0
      have hfz24_1 := blk_frozen BK209.out 1
      have hfz24_2 := blk_frozen BK209.out 2
      have hcz25_0 : wc.cell? ⟨gb210, 0, none⟩ = some (.bool a1_0) := zc BK210 0
      have hcz25_1 : wc.cell? ⟨gb210, 1, none⟩ = some (.int .u64 a1_1) := zc BK210 1
      have hcz25_2 : wc.cell? ⟨gb210, 2, none⟩ = some (.int .u64 a1_2) := zc BK210 2
      have hfz25_0 := blk_frozen BK210.out 0
      have hfz25_1 := blk_frozen BK210.out 1
      have hfz25_2 := blk_frozen BK210.out 2
      go_wp2
      go_ret
      exact ⟨by first | rfl | (simp [errW_none, errW_some] <;> rfl) | (simp [*, errW_none, errW_some] <;> rfl), (zb1 HB)⟩
    ·
     rw [if_neg c18] at H
     have c18b0 : (a0_0 != a1_0) = false := by simpa using c18
     (try (have c18b1 : decide (a0_0 = a1_0) = true := by simpa using c18))
     (try (have c18b2 : (a0_0 == a1_0) = true := by simpa using c18))
     clear c18
     by_cases c26 : a0_0 = true
     ·
      subst c26
      have H1 : ((impl_compareSizes.f kj2 a1_0 a1_1 a1_2 true a0_1 a0_2).bind fun t213 => (some t213)) = some r := by rw [if_pos rfl] at H; exact H
      clear H
      have H := H1
      clear H1
      replace H := Option.bind_eq_some_iff.mp H
      obtain ⟨t213, A270, H⟩ := H
      replace H : (some t213) = some r := H
      have A27 := Aside0.mk A270
      clear A270
      obtain rfl := Option.some.inj H
      have hnb28 := NB209_210.out
      have hnc28 := NB210_209.out
      have hcz29_0 : wc.cell? ⟨gb209, 0, none⟩ = some (.bool true) := zc BK209 0
      have hcz29_1 : wc.cell? ⟨gb209, 1, none⟩ = some (.int .u64 a0_1) := zc BK209 1
      have hcz29_2 : wc.cell? ⟨gb209, 2, none⟩ = some (.int .u64 a0_2) := zc BK209 2
      have hfz29_0 := blk_frozen BK209.out 0
      have hfz29_1 := blk_frozen BK209.out 1
      have hfz29_2 := blk_frozen BK209.out 2
      have hcz30_0 : wc.cell? ⟨gb210, 0, none⟩ = some (.bool a1_0) := zc BK210 0
      have hcz30_1 : wc.cell? ⟨gb210, 1, none⟩ = some (.int .u64 a1_1) := zc BK210 1
      have hcz30_2 : wc.cell? ⟨gb210, 2, none⟩ = some (.int .u64 a1_2) := zc BK210 2
      have hfz30_0 := blk_frozen BK210.out 0
      have hfz30_1 := blk_frozen BK210.out 1
      have hfz30_2 := blk_frozen BK210.out 2
      go_wp2_with (first | ((with_reducible refine gate_callee (f := 38) rfl ?_); refine goesL_ (some 25) rfl rfl Tryd.func38 (by kernel_rfl) rfl #[.agg #[.bool a1_0, .int .u64 a1_1, .int .u64 a1_2], .agg #[.bool true, .int .u64 a0_1, .int .u64 a0_2]] rfl zq6 ?_; (with_reducible refine (impl_compareSizes.calls kj2 a1_0 a1_1 a1_2 true a0_1 a0_2 t213 _ A27.out).mono ?_); rintro e w31 ⟨rfl, hb⟩; refine ⟨_, rfl, ?_⟩; replace BK209 := Aside0.mk (zbb BK209 hb); replace BK210 := Aside0.mk (zbb BK210 hb); replace HB := Aside0.mk (below_step (zb1 HB) hb); (try clear hb); (try clear hb2); (try clear hk); (try clear hi)))
      go_ret
      exact ⟨by first | rfl | (simp [errW_none, errW_some] <;> rfl) | (simp [*, errW_none, errW_some] <;> rfl), (zb1 HB)⟩
     ·
      replace c26 := Bool.eq_false_iff.mpr c26
      subst c26
      have H1 : ((impl_compareSizes.f kj2 false a0_1 a0_2 a1_0 a1_1 a1_2).bind fun t214 => (some t214)) = some r := by rw [if_neg (show ¬ (false = true) by decide)] at H; exact H
      clear H
      have H := H1
      clear H1
      replace H := Option.bind_eq_some_iff.mp H
      obtain ⟨t214, A320, H⟩ := H
      replace H : (some t214) = some r := H
      have A32 := Aside0.mk A320
      clear A320
      obtain rfl := Option.some.inj H
      have hnb33 := NB209_210.out
      have hnc33 := NB210_209.out
      have hcz34_0 : wc.cell? ⟨gb209, 0, none⟩ = some (.bool false) := zc BK209 0
      have hcz34_1 : wc.cell? ⟨gb209, 1, none⟩ = some (.int .u64 a0_1) := zc BK209 1
      have hcz34_2 : wc.cell? ⟨gb209, 2, none⟩ = some (.int .u64 a0_2) := zc BK209 2
      have hfz34_0 := blk_frozen BK209.out 0
      have hfz34_1 := blk_frozen BK209.out 1
      have hfz34_2 := blk_frozen BK209.out 2
      have hcz35_0 : wc.cell? ⟨gb210, 0, none⟩ = some (.bool a1_0) := zc BK210 0
      have hcz35_1 : wc.cell? ⟨gb210, 1, none⟩ = some (.int .u64 a1_1) := zc BK210 1
      have hcz35_2 : wc.cell? ⟨gb210, 2, none⟩ = some (.int .u64 a1_2) := zc BK210 2
      have hfz35_0 := blk_frozen BK210.out 0
      have hfz35_1 := blk_frozen BK210.out 1
      have hfz35_2 := blk_frozen BK210.out 2
      go_wp2_with (first | ((with_reducible refine gate_callee (f := 38) rfl ?_); refine goesL_ (some 28) rfl rfl Tryd.func38 (by kernel_rfl) rfl #[.agg #[.bool false, .int .u64 a0_1, .int .u64 a0_2], .agg #[.bool a1_0, .int .u64 a1_1, .int .u64 a1_2]] rfl zq6 ?_; (with_reducible refine (impl_compareSizes.calls kj2 false a0_1 a0_2 a1_0 a1_1 a1_2 t214 _ A32.out).mono ?_); rintro e w36 ⟨rfl, hb⟩; refine ⟨_, rfl, ?_⟩; replace BK209 := Aside0.mk (zbb BK209 hb); replace BK210 := Aside0.mk (zbb BK210 hb); replace HB := Aside0.mk (below_step (zb1 HB) hb); (try clear hb); (try clear hb2); (try clear hk); (try clear hi)))
      go_ret
      exact ⟨by first | rfl | (simp [errW_none, errW_some] <;> rfl) | (simp [*, errW_none, errW_some] <;> rfl), (zb1 HB)⟩
end Go.Proofs.YtlhojnbllfmmoaaDoor.PD
