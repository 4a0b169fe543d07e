-- By wip/mk/drv.py
import Derived.Test.YthanmlojikidbaaQPolylsPDx0
import Derived.Test.YthanmlojikidbaaQPolylsPDx5
import Derived.Test.YthanmlojikidbaaQPolylsPDx4
namespace Go.Proofs.Ythanmlojikidbaa.PD
open Go.RowKit Go.Proofs.YthanmlojikidbaaW.PrintWords Go.Proofs.YthanmlojikidbaaW.PrintLast Go.Proofs.YthanmlojikidbaaW.PrintMore
attribute [local go_sem] max2_int min2_int max_two min_two max_three min_three max_four min_four
set_option linter.unusedVariables false
set_option linter.unusedSimpArgs false
/-! ### spec_l1Cur_anyPoly: function 51 -/
theorem z51_0 {P Q : Prop} (h : Aside0 (Q)) (f : Q → P := by intro h_; repeat (first | (with_reducible first | exact h_ | apply IsS67.alloc | apply IsS67.drewN | apply IsS67.drew | apply IsS67.set_1 | apply IsS67.set_2) | exact h_)) : P := f h.out
theorem z51_1 {w W0 W1 : World} {B : Nat} (h : Aside0 (Below B w W0)) (f : Below B w W0 → Below B w W1 := by intro h_; repeat (first | (with_reducible first | exact h_ | apply below_alloc | apply pw_below_drewN | apply below_drew1 | refine below_set ?_ (IsS67.ge (Aside0.out (by assumption)))) | exact h_)) : Below B w W1 := f h.out
theorem z51_2 {w W0 W1 : World} {g : Nat} {row : Option Nat} (h : Aside0 (KeepBut w W0 g row)) (f : KeepBut w W0 g row → KeepBut w W1 g row := by intro h_; repeat (first | (with_reducible first | exact h_ | apply KeepBut.set_ | apply keep_drewN | apply keep_drew | apply keep_alloc) | exact h_)) : KeepBut w W1 g row := f h.out
set_option maxHeartbeats 8000000 in
set_option maxRecDepth 100000 in
theorem spec_l1Cur_anyPoly.calls (k : Nat) (g : Nat) (s0_0 : List Int) (s0_1 : Int) (s0_2 : Int) (a1 : Int) (r1 : List (S51)) (r2 : Int) (r3 : Int) (w0 w : World) (hI : IsS67 w0 w g s0_0 s0_1 s0_2) (hB : Below w0.heap.size w0 w) (h : spec_l1Cur_anyPoly.f k s0_0 s0_1 s0_2 a1 = some (r1, r2, r3)) :
  Calls Try.prog 51 #[.pointer (some ⟨g, 0, none⟩), .int .i64 a1] w fun e w' => ∃ v0_ : Value, e = .returned (v0_) ∧ Kd.R k51 51 w' w.heap.size (fun _ => True) v0_ r1 ∧ IsS67 w0 w' g s0_0 r2 r3 ∧ Below w0.heap.size w0 w' ∧ KeepBut w w' g none := by
 have hu51 := Try.underlying51
 have HI0 := Aside0.mk hI
 have HK := Aside0.mk (KeepBut.refl w g none)
 have HL := Aside0.mk hB.size
 clear hI
 have HW0 := Aside0.mk hB.size
 have HB := Aside0.mk hB
 clear hB
 have H : ((spec_l1Cur_poly.f k s0_0 s0_1 s0_2 a1).bind fun bt262 => ((spec_l1Cur_pick.f s0_0 bt262.2.1 bt262.2.2 40).bind fun bt267 => (if bt267.1 = 0 then ((spec_l1Cur_among.f s0_0 bt267.2.1 bt267.2.2 (([0, 1, 1001, (-1001)] : List Int))).bind fun bt273 => (if bt262.1.length < 4398046511104 then (some ((bt262.1 ++ [(⟨bt273.1, 4, 0, 0⟩ : S51)]), bt273.2.1, bt273.2.2)) else (none))) else (if bt267.1 = 1 then ((spec_l1Cur_among.f s0_0 bt267.2.1 bt267.2.2 (([5, (-1), 4611686018427387904] : List Int))).bind fun bt282 => ((spec_l1Cur_among.f s0_0 bt282.2.1 bt282.2.2 (([0, (-1), 4611686018427387904] : List Int))).bind fun bt288 => (if bt262.1.length < 4398046511104 then (some ((bt262.1 ++ [(⟨1, bt282.1, bt288.1, 0⟩ : S51)]), bt288.2.1, bt288.2.2)) else (none)))) else (if bt267.1 = 2 then (if bt262.1.length + bt262.1.length < 4398046511104 then (some ((bt262.1 ++ bt262.1), bt267.2.1, bt267.2.2)) else (none)) else (if bt267.1 = 3 then (spec_l1Cur_anyPoly.l0 k ([] : List (S51)) 0 s0_0 bt267.2.1 bt267.2.2) else (some (bt262.1, bt267.2.1, bt267.2.2)))))))) = some (r1, r2, r3) := h
 clear h
 replace H := Option.bind_eq_some_iff.mp H
 obtain ⟨⟨t262, t265, t266⟩, A30, H⟩ := H
 replace H : ((spec_l1Cur_pick.f s0_0 t265 t266 40).bind fun bt267 => (if bt267.1 = 0 then ((spec_l1Cur_among.f s0_0 bt267.2.1 bt267.2.2 (([0, 1, 1001, (-1001)] : List Int))).bind fun bt273 => (if t262.length < 4398046511104 then (some ((t262 ++ [(⟨bt273.1, 4, 0, 0⟩ : S51)]), bt273.2.1, bt273.2.2)) else (none))) else (if bt267.1 = 1 then ((spec_l1Cur_among.f s0_0 bt267.2.1 bt267.2.2 (([5, (-1), 4611686018427387904] : List Int))).bind fun bt282 => ((spec_l1Cur_among.f s0_0 bt282.2.1 bt282.2.2 (([0, (-1), 4611686018427387904] : List Int))).bind fun bt288 => (if t262.length < 4398046511104 then (some ((t262 ++ [(⟨1, bt282.1, bt288.1, 0⟩ : S51)]), bt288.2.1, bt288.2.2)) else (none)))) else (if bt267.1 = 2 then (if t262.length + t262.length < 4398046511104 then (some ((t262 ++ t262), bt267.2.1, bt267.2.2)) else (none)) else (if bt267.1 = 3 then (spec_l1Cur_anyPoly.l0 k ([] : List (S51)) 0 s0_0 bt267.2.1 bt267.2.2) else (some (t262, bt267.2.1, bt267.2.2))))))) = some (r1, r2, r3) := H
 have A3 := Aside0.mk A30
 clear A30
 replace H := Option.bind_eq_some_iff.mp H
 obtain ⟨⟨t267, t268, t269⟩, A40, H⟩ := H
 replace H : (if t267 = 0 then ((spec_l1Cur_among.f s0_0 t268 t269 (([0, 1, 1001, (-1001)] : List Int))).bind fun bt273 => (if t262.length < 4398046511104 then (some ((t262 ++ [(⟨bt273.1, 4, 0, 0⟩ : S51)]), bt273.2.1, bt273.2.2)) else (none))) else (if t267 = 1 then ((spec_l1Cur_among.f s0_0 t268 t269 (([5, (-1), 4611686018427387904] : List Int))).bind fun bt282 => ((spec_l1Cur_among.f s0_0 bt282.2.1 bt282.2.2 (([0, (-1), 4611686018427387904] : List Int))).bind fun bt288 => (if t262.length < 4398046511104 then (some ((t262 ++ [(⟨1, bt282.1, bt288.1, 0⟩ : S51)]), bt288.2.1, bt288.2.2)) else (none)))) else (if t267 = 2 then (if t262.length + t262.length < 4398046511104 then (some ((t262 ++ t262), t268, t269)) else (none)) else (if t267 = 3 then (spec_l1Cur_anyPoly.l0 k ([] : List (S51)) 0 s0_0 t268 t269) else (some (t262, t268, t269)))))) = some (r1, r2, r3) := H
 have A4 := Aside0.mk A40
 clear A40
 by_cases c5 : t267 = 0
 ·
  rw [if_pos c5] at H
  have c5b0 : (t267 == 0) = true := beq_iff_eq.mpr c5
  have c5b1 : (t267 != 0) = false := bne_eq_false_iff_eq.mpr c5
  clear c5
  obtain ⟨y270, hy270⟩ : ∃ y_ : List Int, y_ = (([0, 1, 1001, (-1001)] : List Int)) := ⟨_, rfl⟩
  replace H : ((spec_l1Cur_among.f s0_0 t268 t269 y270).bind fun bt273 => (if t262.length < 4398046511104 then (some ((t262 ++ [(⟨bt273.1, 4, 0, 0⟩ : S51)]), bt273.2.1, bt273.2.2)) else (none))) = some (r1, r2, r3) := by first | (rw [hy270]; with_reducible exact H) | (have H2_ := (Option.bind_some _ _).symm.trans H; rw [hy270]; with_reducible exact H2_) | (have H2_ := (Option.bind_some _ _).symm.trans H; with_reducible exact H2_) | with_reducible exact H | (rw [hy270]; exact H) | exact H
  have Ny270 := Aside0.mk hy270
  clear hy270
  replace H := Option.bind_eq_some_iff.mp H
  obtain ⟨⟨t273, t274, t275⟩, A60, H⟩ := H
  replace H : (if t262.length < 4398046511104 then (some ((t262 ++ [(⟨t273, 4, 0, 0⟩ : S51)]), t274, t275)) else (none)) = some (r1, r2, r3) := H
  have A6 := Aside0.mk A60
  clear A60
  by_cases c7 : t262.length < 4398046511104
  ·
   rw [if_pos c7] at H
   have LMc7 := Aside0.mk c7
   clear c7
   obtain ⟨y276, hy276⟩ : ∃ y_ : List (S51), y_ = (t262 ++ [(⟨t273, 4, 0, 0⟩ : S51)]) := ⟨_, rfl⟩
   replace H : (some (y276, t274, t275)) = some (r1, r2, r3) := by first | (rw [hy276]; with_reducible exact H) | (have H2_ := (Option.bind_some _ _).symm.trans H; rw [hy276]; with_reducible exact H2_) | (have H2_ := (Option.bind_some _ _).symm.trans H; with_reducible exact H2_) | with_reducible exact H | (rw [hy276]; exact H) | exact H
   have Ny276 := Aside0.mk hy276
   clear hy276
   simp only [Option.some.injEq, Prod.mk.injEq] at H
   obtain ⟨rfl, rfl, rfl⟩ := H
   go_enter Try.func51, Try.ntmps51
   go_wp2_with (first | ((with_reducible refine gate_callee (f := 82) rfl ?_); refine goesL_ (some 11) rfl rfl Try.func82 (by kernel_rfl) rfl #[.pointer (some ⟨g, 0, none⟩), .int .i64 a1] rfl zq6 ?_; (with_reducible refine (spec_l1Cur_poly.calls k g s0_0 s0_1 s0_2 a1 t262 t265 t266 w0 _ ?side1 ?side2 A3.out).mono ?_); (case side1 => exact z51_0 HI0); (case side2 => exact z51_1 HB); rintro e w8 ⟨v263, rfl, ho0, hi, hb, hk⟩; refine ⟨_, rfl, ?_⟩; have HO264 := Aside0.mk (Kd.R_lower ho0 (keep_size (w := w) (g := g) (row := none) (z51_2 HK))); replace HK := Aside0.mk (KeepBut.trans (z51_2 HK) hk (.inl rfl)); replace HB := Aside0.mk (hb); replace HI0 := Aside0.mk (hi); (try clear hb); (try clear hb2); (try clear hk); (try clear hi); (try clear ho0)) | ((with_reducible refine gate_callee (f := 50) rfl ?_); refine goesL_ (some 13) rfl rfl Try.func50 (by kernel_rfl) rfl #[.pointer (some ⟨g, 0, none⟩), .int .i64 40] rfl zq6 ?_; (with_reducible refine (spec_l1Cur_pick.calls g s0_0 t265 t266 40 t267 t268 t269 w0 _ ?side1 ?side2 A4.out).mono ?_); (case side1 => exact z51_0 HI0); (case side2 => exact z51_1 HB); rintro e w9 ⟨rfl, hi, hb, hk⟩; refine ⟨_, rfl, ?_⟩; replace HO264 := Aside0.mk (Kd.R_mono (Kd.R_keep (IsS67.apart (show IsS67 w0 _ g s0_0 t265 t266 from (z51_0 HI0)) (zq3 HO264) (by decide)) hk (fun _ h => h.2)) (fun _ h => h.1)); replace HK := Aside0.mk (KeepBut.trans (z51_2 HK) hk (.inl rfl)); replace HB := Aside0.mk (hb); replace HI0 := Aside0.mk (hi); (try clear hb); (try clear hb2); (try clear hk); (try clear hi)) | ((with_reducible refine gate_dst (N := 18) rfl ?_); (try (refine gate_guard (by rfl) ?_; dsimp only)); refine Kd.R_lit (Kd.int .i64) _ 3 ?hg (N := 18) ?hd (xs := ([0, 1, 1001, (-1001)] : List Int)) (inner := [.int .i64 0, .int .i64 1, .int .i64 1001, .int .i64 (-1001)]) (ok := fun _ => True) (okp := fun _ => True) ?hr ?hp (fun _ hk => hk) trivial (Below.refl _ _) (Nat.le_refl _) (by simp) ?_; (case hd => rfl); (case hg => rfl); (case hr => first | (go_simp; done) | (go_simp; rfl)); (case hp => exact (Reps.one (show Kd.M (Kd.int .i64) _ _ _ 0 [.int .i64 0] from rfl) (Reps.one (show Kd.M (Kd.int .i64) _ _ _ 1 [.int .i64 1] from rfl) (Reps.one (show Kd.M (Kd.int .i64) _ _ _ 1001 [.int .i64 1001] from rfl) (Reps.one (show Kd.M (Kd.int .i64) _ _ _ (-1001) [.int .i64 (-1001)] from rfl) (Reps.none _ _)))))); intro v271 w10 ho11 hb hg_ hnew_; clear hg_ hnew_; (first | rw [← Ny270.out] at ho11 | (simp only [Int.reduceToNat] at ho11; rw [← Ny270.out] at ho11)); have HO272 := Aside0.mk (Kd.R_lower ho11 (keep_size (w := w) (g := g) (row := none) (z51_2 HK))); replace HO264 := Aside0.mk (Kd.R_below (zq3 HO264) hb); replace HI0 := Aside0.mk (IsS67.below (z51_0 HI0) hb); replace HK := Aside0.mk (KeepBut.trans (z51_2 HK) (KeepBut.of_below hb g none) (.inl rfl)); replace HB := Aside0.mk (below_step (z51_1 HB) hb); clear hb ho11; obtain ⟨Ao12, co12, eo12⟩ := Kd.R_slice HO272.out; subst eo12) | ((with_reducible refine gate_callee (f := 64) rfl ?_); refine goesL_ (some 19) rfl rfl Try.func64 (by kernel_rfl) rfl #[.pointer (some ⟨g, 0, none⟩), .slice Ao12 y270.length co12] rfl zq6 ?_; (with_reducible refine (spec_l1Cur_among.calls g s0_0 t268 t269 _ _ y270 t273 t274 t275 w0 _ ?side1 ?side2 ?side3 ?side4 ?side5 A6.out).mono ?_); (case side1 => exact z51_0 HI0); (case side2 => exact z51_1 HB); (case side3 => repeat (first | exact (Kd.R_reads' HO272.out).2.2 | (with_reducible refine Kd.C_alloc ?_ _) | (with_reducible refine Kd.C_drewN ?_ _) | (with_reducible refine Kd.C_drew ?_))); (case side4 => exact (Kd.R_reads' HO272.out).2.1); (case side5 => exact far_slice (IsS67.own_ne HI0.out HO272.out (by decide))); rintro e w13 ⟨rfl, hi, hb, hk⟩; refine ⟨_, rfl, ?_⟩; replace HO264 := Aside0.mk (Kd.R_mono (Kd.R_keep (IsS67.apart (show IsS67 w0 _ g s0_0 t268 t269 from (z51_0 HI0)) (zq3 HO264) (by decide)) hk (fun _ h => h.2)) (fun _ h => h.1)); replace HO272 := Aside0.mk (Kd.R_mono (Kd.R_keep (IsS67.apart (show IsS67 w0 _ g s0_0 t268 t269 from (z51_0 HI0)) (zq3 HO272) (by decide)) hk (fun _ h => h.2)) (fun _ h => h.1)); replace HK := Aside0.mk (KeepBut.trans (z51_2 HK) hk (.inl rfl)); replace HB := Aside0.mk (hb); replace HI0 := Aside0.mk (hi); (try clear hb); (try clear hb2); (try clear hk); (try clear hi)) | ((with_reducible refine gate_builtin (b := .append) (xs := #[.tmp 16, .tmp 21]) rfl ?_); (try (refine gate_guard (by rfl) ?_; dsimp only)); at_builtin; refine Kd.R_append k51 w.heap.size rfl (.tmp 16) (.tmp 21) 25 51 (.agg #[(.int .i64 0), (.int .i64 0), (.int .i64 0), (.int .i64 0)]) 32 rfl Try.underlying25 info51 rfl (by decide) (by omega) v263 t262 (⟨t273, 4, 0, 0⟩ : S51) [.int .i64 t273, .int .i64 4, .int .i64 0, .int .i64 0] (fun _ => True) (fun _ => False) rfl rfl ?aP (fun _ hk => hk.elim) ?aF ?aO (Below.refl _ _) ?aS ?aL ?_; (case aP => exact k51_mkM _ _ _ (⟨t273, 4, 0, 0⟩ : S51)); (case aF => exact (fun _ _ => trivial)); (case aO => exact (zq3 HO264)); (case aS => exact (keep_size (w := w) (g := g) (row := none) (z51_2 HK))); (case aL => have := LMc7.out; omega); intro v277 w14 ho hb hg hat; rw [← Ny276.out] at ho; have HO278 := Aside0.mk (ho); replace HI0 := Aside0.mk (IsS67.grown (z51_0 HI0) hg (IsS67.own_ne HI0.out HO264.out (by decide))); replace HO272 := Aside0.mk (Kd.R_over' (zq3 HO272) (Kd.R_typed (zq3 HO264)) (by decide) hg); replace HB := Aside0.mk (below_weaken (z51_1 HB) HL.out hb); replace HK := Aside0.mk (KeepBut.trans (z51_2 HK) (KeepBut.of_grown hg g) (Kd.R_base2 HO264.out)); clear HO264; clear ho hb hg hat))
   go_ret
   exact ⟨_, by first | rfl | (simp [errW_none, errW_some] <;> rfl) | (simp [*, errW_none, errW_some] <;> rfl), by (with_reducible repeat (first | apply Kd.R_alloc | apply Kd.R_drewN | apply Kd.R_drew)); exact HO278.out, (z51_0 HI0), (z51_1 HB), (z51_2 HK)⟩
  ·
   rw [if_neg c7] at H
   exact absurd H (by simp)
 ·
  rw [if_neg c5] at H
  have c5b0 : (t267 == 0) = false := beq_eq_false_iff_ne.mpr c5
  have c5b1 : (t267 != 0) = true := bne_iff_ne.mpr c5
  by_cases c15 : t267 = 1
  ·
   rw [if_pos c15] at H
   have c15b0 : (t267 == 1) = true := beq_iff_eq.mpr c15
   have c15b1 : (t267 != 1) = false := bne_eq_false_iff_eq.mpr c15
   clear c15
   obtain ⟨y279, hy279⟩ : ∃ y_ : List Int, y_ = (([5, (-1), 4611686018427387904] : List Int)) := ⟨_, rfl⟩
   replace H : ((spec_l1Cur_among.f s0_0 t268 t269 y279).bind fun bt282 => ((spec_l1Cur_among.f s0_0 bt282.2.1 bt282.2.2 (([0, (-1), 4611686018427387904] : List Int))).bind fun bt288 => (if t262.length < 4398046511104 then (some ((t262 ++ [(⟨1, bt282.1, bt288.1, 0⟩ : S51)]), bt288.2.1, bt288.2.2)) else (none)))) = some (r1, r2, r3) := by first | (rw [hy279]; with_reducible exact H) | (have H2_ := (Option.bind_some _ _).symm.trans H; rw [hy279]; with_reducible exact H2_) | (have H2_ := (Option.bind_some _ _).symm.trans H; with_reducible exact H2_) | with_reducible exact H | (rw [hy279]; exact H) | exact H
   have Ny279 := Aside0.mk hy279
   clear hy279
   replace H := Option.bind_eq_some_iff.mp H
   obtain ⟨⟨t282, t283, t284⟩, A160, H⟩ := H
   replace H : ((spec_l1Cur_among.f s0_0 t283 t284 (([0, (-1), 4611686018427387904] : List Int))).bind fun bt288 => (if t262.length < 4398046511104 then (some ((t262 ++ [(⟨1, t282, bt288.1, 0⟩ : S51)]), bt288.2.1, bt288.2.2)) else (none))) = some (r1, r2, r3) := H
   have A16 := Aside0.mk A160
   clear A160
   obtain ⟨y285, hy285⟩ : ∃ y_ : List Int, y_ = (([0, (-1), 4611686018427387904] : List Int)) := ⟨_, rfl⟩
   replace H : ((spec_l1Cur_among.f s0_0 t283 t284 y285).bind fun bt288 => (if t262.length < 4398046511104 then (some ((t262 ++ [(⟨1, t282, bt288.1, 0⟩ : S51)]), bt288.2.1, bt288.2.2)) else (none))) = some (r1, r2, r3) := by first | (rw [hy285]; with_reducible exact H) | (have H2_ := (Option.bind_some _ _).symm.trans H; rw [hy285]; with_reducible exact H2_) | (have H2_ := (Option.bind_some _ _).symm.trans H; with_reducible exact H2_) | with_reducible exact H | (rw [hy285]; exact H) | exact H
   have Ny285 := Aside0.mk hy285
   clear hy285
   replace H := Option.bind_eq_some_iff.mp H
   obtain ⟨⟨t288, t289, t290⟩, A170, H⟩ := H
   replace H : (if t262.length < 4398046511104 then (some ((t262 ++ [(⟨1, t282, t288, 0⟩ : S51)]), t289, t290)) else (none)) = some (r1, r2, r3) := H
   have A17 := Aside0.mk A170
   clear A170
   by_cases c18 : t262.length < 4398046511104
   ·
    rw [if_pos c18] at H
    have LMc18 := Aside0.mk c18
    clear c18
    obtain ⟨y291, hy291⟩ : ∃ y_ : List (S51), y_ = (t262 ++ [(⟨1, t282, t288, 0⟩ : S51)]) := ⟨_, rfl⟩
    replace H : (some (y291, t289, t290)) = some (r1, r2, r3) := by first | (rw [hy291]; with_reducible exact H) | (have H2_ := (Option.bind_some _ _).symm.trans H; rw [hy291]; with_reducible exact H2_) | (have H2_ := (Option.bind_some _ _).symm.trans H; with_reducible exact H2_) | with_reducible exact H | (rw [hy291]; exact H) | exact H
    have Ny291 := Aside0.mk hy291
    clear hy291
    simp only [Option.some.injEq, Prod.mk.injEq] at H
    obtain ⟨rfl, rfl, rfl⟩ := H
    go_enter Try.func51, Try.ntmps51
    go_wp2_with (first | ((with_reducible refine gate_callee (f := 82) rfl ?_); refine goesL_ (some 11) rfl rfl Try.func82 (by kernel_rfl) rfl #[.pointer (some ⟨g, 0, none⟩), .int .i64 a1] rfl zq6 ?_; (with_reducible refine (spec_l1Cur_poly.calls k g s0_0 s0_1 s0_2 a1 t262 t265 t266 w0 _ ?side1 ?side2 A3.out).mono ?_); (case side1 => exact z51_0 HI0); (case side2 => exact z51_1 HB); rintro e w19 ⟨v263, rfl, ho0, hi, hb, hk⟩; refine ⟨_, rfl, ?_⟩; have HO264 := Aside0.mk (Kd.R_lower ho0 (keep_size (w := w) (g := g) (row := none) (z51_2 HK))); replace HK := Aside0.mk (KeepBut.trans (z51_2 HK) hk (.inl rfl)); replace HB := Aside0.mk (hb); replace HI0 := Aside0.mk (hi); (try clear hb); (try clear hb2); (try clear hk); (try clear hi); (try clear ho0)) | ((with_reducible refine gate_callee (f := 50) rfl ?_); refine goesL_ (some 13) rfl rfl Try.func50 (by kernel_rfl) rfl #[.pointer (some ⟨g, 0, none⟩), .int .i64 40] rfl zq6 ?_; (with_reducible refine (spec_l1Cur_pick.calls g s0_0 t265 t266 40 t267 t268 t269 w0 _ ?side1 ?side2 A4.out).mono ?_); (case side1 => exact z51_0 HI0); (case side2 => exact z51_1 HB); rintro e w20 ⟨rfl, hi, hb, hk⟩; refine ⟨_, rfl, ?_⟩; replace HO264 := Aside0.mk (Kd.R_mono (Kd.R_keep (IsS67.apart (show IsS67 w0 _ g s0_0 t265 t266 from (z51_0 HI0)) (zq3 HO264) (by decide)) hk (fun _ h => h.2)) (fun _ h => h.1)); replace HK := Aside0.mk (KeepBut.trans (z51_2 HK) hk (.inl rfl)); replace HB := Aside0.mk (hb); replace HI0 := Aside0.mk (hi); (try clear hb); (try clear hb2); (try clear hk); (try clear hi)) | ((with_reducible refine gate_dst (N := 27) rfl ?_); (try (refine gate_guard (by rfl) ?_; dsimp only)); refine Kd.R_lit (Kd.int .i64) _ 3 ?hg (N := 27) ?hd (xs := ([5, (-1), 4611686018427387904] : List Int)) (inner := [.int .i64 5, .int .i64 (-1), .int .i64 4611686018427387904]) (ok := fun _ => True) (okp := fun _ => True) ?hr ?hp (fun _ hk => hk) trivial (Below.refl _ _) (Nat.le_refl _) (by simp) ?_; (case hd => rfl); (case hg => rfl); (case hr => first | (go_simp; done) | (go_simp; rfl)); (case hp => exact (Reps.one (show Kd.M (Kd.int .i64) _ _ _ 5 [.int .i64 5] from rfl) (Reps.one (show Kd.M (Kd.int .i64) _ _ _ (-1) [.int .i64 (-1)] from rfl) (Reps.one (show Kd.M (Kd.int .i64) _ _ _ 4611686018427387904 [.int .i64 4611686018427387904] from rfl) (Reps.none _ _))))); intro v280 w21 ho22 hb hg_ hnew_; clear hg_ hnew_; (first | rw [← Ny279.out] at ho22 | (simp only [Int.reduceToNat] at ho22; rw [← Ny279.out] at ho22)); have HO281 := Aside0.mk (Kd.R_lower ho22 (keep_size (w := w) (g := g) (row := none) (z51_2 HK))); replace HO264 := Aside0.mk (Kd.R_below (zq3 HO264) hb); replace HI0 := Aside0.mk (IsS67.below (z51_0 HI0) hb); replace HK := Aside0.mk (KeepBut.trans (z51_2 HK) (KeepBut.of_below hb g none) (.inl rfl)); replace HB := Aside0.mk (below_step (z51_1 HB) hb); clear hb ho22; obtain ⟨Ao23, co23, eo23⟩ := Kd.R_slice HO281.out; subst eo23) | ((with_reducible refine gate_callee (f := 64) rfl ?_); refine goesL_ (some 28) rfl rfl Try.func64 (by kernel_rfl) rfl #[.pointer (some ⟨g, 0, none⟩), .slice Ao23 y279.length co23] rfl zq6 ?_; (with_reducible refine (spec_l1Cur_among.calls g s0_0 t268 t269 _ _ y279 t282 t283 t284 w0 _ ?side1 ?side2 ?side3 ?side4 ?side5 A16.out).mono ?_); (case side1 => exact z51_0 HI0); (case side2 => exact z51_1 HB); (case side3 => repeat (first | exact (Kd.R_reads' HO281.out).2.2 | (with_reducible refine Kd.C_alloc ?_ _) | (with_reducible refine Kd.C_drewN ?_ _) | (with_reducible refine Kd.C_drew ?_))); (case side4 => exact (Kd.R_reads' HO281.out).2.1); (case side5 => exact far_slice (IsS67.own_ne HI0.out HO281.out (by decide))); rintro e w24 ⟨rfl, hi, hb, hk⟩; refine ⟨_, rfl, ?_⟩; replace HO264 := Aside0.mk (Kd.R_mono (Kd.R_keep (IsS67.apart (show IsS67 w0 _ g s0_0 t268 t269 from (z51_0 HI0)) (zq3 HO264) (by decide)) hk (fun _ h => h.2)) (fun _ h => h.1)); replace HO281 := Aside0.mk (Kd.R_mono (Kd.R_keep (IsS67.apart (show IsS67 w0 _ g s0_0 t268 t269 from (z51_0 HI0)) (zq3 HO281) (by decide)) hk (fun _ h => h.2)) (fun _ h => h.1)); replace HK := Aside0.mk (KeepBut.trans (z51_2 HK) hk (.inl rfl)); replace HB := Aside0.mk (hb); replace HI0 := Aside0.mk (hi); (try clear hb); (try clear hb2); (try clear hk); (try clear hi)) | ((with_reducible refine gate_dst (N := 30) rfl ?_); (try (refine gate_guard (by rfl) ?_; dsimp only)); refine Kd.R_lit (Kd.int .i64) _ 3 ?hg (N := 30) ?hd (xs := ([0, (-1), 4611686018427387904] : List Int)) (inner := [.int .i64 0, .int .i64 (-1), .int .i64 4611686018427387904]) (ok := fun _ => True) (okp := fun _ => True) ?hr ?hp (fun _ hk => hk) trivial (Below.refl _ _) (Nat.le_refl _) (by simp) ?_; (case hd => rfl); (case hg => rfl); (case hr => first | (go_simp; done) | (go_simp; rfl)); (case hp => exact (Reps.one (show Kd.M (Kd.int .i64) _ _ _ 0 [.int .i64 0] from rfl) (Reps.one (show Kd.M (Kd.int .i64) _ _ _ (-1) [.int .i64 (-1)] from rfl) (Reps.one (show Kd.M (Kd.int .i64) _ _ _ 4611686018427387904 [.int .i64 4611686018427387904] from rfl) (Reps.none _ _))))); intro v286 w25 ho26 hb hg_ hnew_; clear hg_ hnew_; (first | rw [← Ny285.out] at ho26 | (simp only [Int.reduceToNat] at ho26; rw [← Ny285.out] at ho26)); have HO287 := Aside0.mk (Kd.R_lower (Kd.R_new' ho26 (Kd.R_lt (zq3 HO281))) (keep_size (w := w) (g := g) (row := none) (z51_2 HK))); replace HO264 := Aside0.mk (Kd.R_below (zq3 HO264) hb); replace HO281 := Aside0.mk (Kd.R_elder' (zq3 HO281) (Kd.R_base ho26) hb); replace HI0 := Aside0.mk (IsS67.below (z51_0 HI0) hb); replace HK := Aside0.mk (KeepBut.trans (z51_2 HK) (KeepBut.of_below hb g none) (.inl rfl)); replace HB := Aside0.mk (below_step (z51_1 HB) hb); clear hb ho26; obtain ⟨Ao27, co27, eo27⟩ := Kd.R_slice HO287.out; subst eo27) | ((with_reducible refine gate_callee (f := 64) rfl ?_); refine goesL_ (some 31) rfl rfl Try.func64 (by kernel_rfl) rfl #[.pointer (some ⟨g, 0, none⟩), .slice Ao27 y285.length co27] rfl zq6 ?_; (with_reducible refine (spec_l1Cur_among.calls g s0_0 t283 t284 _ _ y285 t288 t289 t290 w0 _ ?side1 ?side2 ?side3 ?side4 ?side5 A17.out).mono ?_); (case side1 => exact z51_0 HI0); (case side2 => exact z51_1 HB); (case side3 => repeat (first | exact (Kd.R_reads' HO287.out).2.2 | (with_reducible refine Kd.C_alloc ?_ _) | (with_reducible refine Kd.C_drewN ?_ _) | (with_reducible refine Kd.C_drew ?_))); (case side4 => exact (Kd.R_reads' HO287.out).2.1); (case side5 => exact far_slice (IsS67.own_ne HI0.out HO287.out (by decide))); rintro e w28 ⟨rfl, hi, hb, hk⟩; refine ⟨_, rfl, ?_⟩; replace HO264 := Aside0.mk (Kd.R_mono (Kd.R_keep (IsS67.apart (show IsS67 w0 _ g s0_0 t283 t284 from (z51_0 HI0)) (zq3 HO264) (by decide)) hk (fun _ h => h.2)) (fun _ h => h.1)); replace HO281 := Aside0.mk (Kd.R_mono (Kd.R_keep (IsS67.apart (show IsS67 w0 _ g s0_0 t283 t284 from (z51_0 HI0)) (zq3 HO281) (by decide)) hk (fun _ h => h.2)) (fun _ h => h.1)); replace HO287 := Aside0.mk (Kd.R_mono (Kd.R_keep (IsS67.apart (show IsS67 w0 _ g s0_0 t283 t284 from (z51_0 HI0)) (zq3 HO287) (by decide)) hk (fun _ h => h.2)) (fun _ h => h.1)); replace HK := Aside0.mk (KeepBut.trans (z51_2 HK) hk (.inl rfl)); replace HB := Aside0.mk (hb); replace HI0 := Aside0.mk (hi); (try clear hb); (try clear hb2); (try clear hk); (try clear hi)) | ((with_reducible refine gate_builtin (b := .append) (xs := #[.tmp 25, .tmp 33]) rfl ?_); (try (refine gate_guard (by rfl) ?_; dsimp only)); at_builtin; refine Kd.R_append k51 w.heap.size rfl (.tmp 25) (.tmp 33) 25 51 (.agg #[(.int .i64 0), (.int .i64 0), (.int .i64 0), (.int .i64 0)]) 32 rfl Try.underlying25 info51 rfl (by decide) (by omega) v263 t262 (⟨1, t282, t288, 0⟩ : S51) [.int .i64 1, .int .i64 t282, .int .i64 t288, .int .i64 0] (fun _ => True) (fun _ => False) rfl rfl ?aP (fun _ hk => hk.elim) ?aF ?aO (Below.refl _ _) ?aS ?aL ?_; (case aP => exact k51_mkM _ _ _ (⟨1, t282, t288, 0⟩ : S51)); (case aF => exact (fun _ _ => trivial)); (case aO => exact (zq3 HO264)); (case aS => exact (keep_size (w := w) (g := g) (row := none) (z51_2 HK))); (case aL => have := LMc18.out; omega); intro v292 w29 ho hb hg hat; rw [← Ny291.out] at ho; have HO293 := Aside0.mk (ho); replace HI0 := Aside0.mk (IsS67.grown (z51_0 HI0) hg (IsS67.own_ne HI0.out HO264.out (by decide))); replace HO281 := Aside0.mk (Kd.R_over' (zq3 HO281) (Kd.R_typed (zq3 HO264)) (by decide) hg); replace HO287 := Aside0.mk (Kd.R_over' (zq3 HO287) (Kd.R_typed (zq3 HO264)) (by decide) hg); replace HB := Aside0.mk (below_weaken (z51_1 HB) HL.out hb); replace HK := Aside0.mk (KeepBut.trans (z51_2 HK) (KeepBut.of_grown hg g) (Kd.R_base2 HO264.out)); clear HO264; clear ho hb hg hat))
    go_ret
    exact ⟨_, by first | rfl | (simp [errW_none, errW_some] <;> rfl) | (simp [*, errW_none, errW_some] <;> rfl), by (with_reducible repeat (first | apply Kd.R_alloc | apply Kd.R_drewN | apply Kd.R_drew)); exact HO293.out, (z51_0 HI0), (z51_1 HB), (z51_2 HK)⟩
   ·
    rw [if_neg c18] at H
    exact absurd H (by simp)
  ·
   rw [if_neg c15] at H
   have c15b0 : (t267 == 1) = false := beq_eq_false_iff_ne.mpr c15
   have c15b1 : (t267 != 1) = true := bne_iff_ne.mpr c15
   by_cases c30 : t267 = 2
   ·
    rw [if_pos c30] at H
    have c30b0 : (t267 == 2) = true := beq_iff_eq.mpr c30
    have c30b1 : (t267 != 2) = false := bne_eq_false_iff_eq.mpr c30
    clear c30
    by_cases c31 : t262.length + t262.length < 4398046511104
    ·
     rw [if_pos c31] at H
     have LMc31 := Aside0.mk c31
     clear c31
     obtain ⟨y294, hy294⟩ : ∃ y_ : List (S51), y_ = (t262 ++ t262) := ⟨_, rfl⟩
     replace H : (some (y294, t268, t269)) = some (r1, r2, r3) := by first | (rw [hy294]; with_reducible exact H) | (have H2_ := (Option.bind_some _ _).symm.trans H; rw [hy294]; with_reducible exact H2_) | (have H2_ := (Option.bind_some _ _).symm.trans H; with_reducible exact H2_) | with_reducible exact H | (rw [hy294]; exact H) | exact H
     have Ny294 := Aside0.mk hy294
     clear hy294
     simp only [Option.some.injEq, Prod.mk.injEq] at H
     obtain ⟨rfl, rfl, rfl⟩ := H
     go_enter Try.func51, Try.ntmps51
     go_wp2_with (first | ((with_reducible refine gate_callee (f := 82) rfl ?_); refine goesL_ (some 11) rfl rfl Try.func82 (by kernel_rfl) rfl #[.pointer (some ⟨g, 0, none⟩), .int .i64 a1] rfl zq6 ?_; (with_reducible refine (spec_l1Cur_poly.calls k g s0_0 s0_1 s0_2 a1 t262 t265 t266 w0 _ ?side1 ?side2 A3.out).mono ?_); (case side1 => exact z51_0 HI0); (case side2 => exact z51_1 HB); rintro e w32 ⟨v263, rfl, ho0, hi, hb, hk⟩; refine ⟨_, rfl, ?_⟩; have HO264 := Aside0.mk (Kd.R_lower ho0 (keep_size (w := w) (g := g) (row := none) (z51_2 HK))); replace HK := Aside0.mk (KeepBut.trans (z51_2 HK) hk (.inl rfl)); replace HB := Aside0.mk (hb); replace HI0 := Aside0.mk (hi); (try clear hb); (try clear hb2); (try clear hk); (try clear hi); (try clear ho0)) | ((with_reducible refine gate_callee (f := 50) rfl ?_); refine goesL_ (some 13) rfl rfl Try.func50 (by kernel_rfl) rfl #[.pointer (some ⟨g, 0, none⟩), .int .i64 40] rfl zq6 ?_; (with_reducible refine (spec_l1Cur_pick.calls g s0_0 t265 t266 40 t267 t268 t269 w0 _ ?side1 ?side2 A4.out).mono ?_); (case side1 => exact z51_0 HI0); (case side2 => exact z51_1 HB); rintro e w33 ⟨rfl, hi, hb, hk⟩; refine ⟨_, rfl, ?_⟩; replace HO264 := Aside0.mk (Kd.R_mono (Kd.R_keep (IsS67.apart (show IsS67 w0 _ g s0_0 t265 t266 from (z51_0 HI0)) (zq3 HO264) (by decide)) hk (fun _ h => h.2)) (fun _ h => h.1)); replace HK := Aside0.mk (KeepBut.trans (z51_2 HK) hk (.inl rfl)); replace HB := Aside0.mk (hb); replace HI0 := Aside0.mk (hi); (try clear hb); (try clear hb2); (try clear hk); (try clear hi); obtain ⟨Ao35, co35, eo35⟩ := Kd.R_slice HO264.out; subst eo35) | ((with_reducible refine gate_builtin (b := .append) (xs := #[.tmp 37, .tmp 38]) rfl ?_); (try (refine gate_guard (by rfl) ?_; dsimp only)); at_builtin; refine Kd.R_append_rows k51 w.heap.size rfl (.tmp 37) (.tmp 38) 25 51 (.agg #[(.int .i64 0), (.int .i64 0), (.int .i64 0), (.int .i64 0)]) 32 rfl Try.underlying25 info51 rfl (by decide) (by omega) (.slice Ao35 t262.length co35) t262 t262 _ _ _ (fun _ => True) (fun _ => False) rfl rfl ?aO ?aR (fun _ _ h => h) (fun _ h => h.elim) ?aF (Below.refl _ _) ?aS ?aL ?_; (case aR => repeat (first | exact (Kd.R_reads' HO264.out).2.2 | (with_reducible refine Kd.C_alloc ?_ _) | (with_reducible refine Kd.C_drewN ?_ _) | (with_reducible refine Kd.C_drew ?_))); (case aF => exact (fun _ _ => trivial)); (case aO => exact (zq3 HO264)); (case aS => exact (keep_size (w := w) (g := g) (row := none) (z51_2 HK))); (case aL => have := LMc31.out; omega); intro v295 w34 ho hb hg hat; rw [← Ny294.out] at ho; have HO296 := Aside0.mk (ho); replace HI0 := Aside0.mk (IsS67.grown (z51_0 HI0) hg (IsS67.own_ne HI0.out HO264.out (by decide))); replace HB := Aside0.mk (below_weaken (z51_1 HB) HL.out hb); replace HK := Aside0.mk (KeepBut.trans (z51_2 HK) (KeepBut.of_grown hg g) (Kd.R_base2 HO264.out)); clear HO264; clear ho hb hg hat))
     go_ret
     exact ⟨_, by first | rfl | (simp [errW_none, errW_some] <;> rfl) | (simp [*, errW_none, errW_some] <;> rfl), by (with_reducible repeat (first | apply Kd.R_alloc | apply Kd.R_drewN | apply Kd.R_drew)); exact HO296.out, (z51_0 HI0), (z51_1 HB), (z51_2 HK)⟩
    ·
     rw [if_neg c31] at H
     exact absurd H (by simp)
   ·
    rw [if_neg c30] at H
    have c30b0 : (t267 == 2) = false := beq_eq_false_iff_ne.mpr c30
    have c30b1 : (t267 != 2) = true := bne_iff_ne.mpr c30
    by_cases c36 : t267 = 3
    ·
     rw [if_pos c36] at H
     have c36b0 : (t267 == 3) = true := beq_iff_eq.mpr c36
     have c36b1 : (t267 != 3) = false := bne_eq_false_iff_eq.mpr c36
     clear c36
     have H' := Aside0.mk H
     clear H
     go_enter Try.func51, Try.ntmps51
     go_wp2_with (first | ((with_reducible refine gate_callee (f := 82) rfl ?_); refine goesL_ (some 11) rfl rfl Try.func82 (by kernel_rfl) rfl #[.pointer (some ⟨g, 0, none⟩), .int .i64 a1] rfl zq6 ?_; (with_reducible refine (spec_l1Cur_poly.calls k g s0_0 s0_1 s0_2 a1 t262 t265 t266 w0 _ ?side1 ?side2 A3.out).mono ?_); (case side1 => exact z51_0 HI0); (case side2 => exact z51_1 HB); rintro e w37 ⟨v263, rfl, ho0, hi, hb, hk⟩; refine ⟨_, rfl, ?_⟩; have HO264 := Aside0.mk (Kd.R_lower ho0 (keep_size (w := w) (g := g) (row := none) (z51_2 HK))); replace HK := Aside0.mk (KeepBut.trans (z51_2 HK) hk (.inl rfl)); replace HB := Aside0.mk (hb); replace HI0 := Aside0.mk (hi); (try clear hb); (try clear hb2); (try clear hk); (try clear hi); (try clear ho0)) | ((with_reducible refine gate_callee (f := 50) rfl ?_); refine goesL_ (some 13) rfl rfl Try.func50 (by kernel_rfl) rfl #[.pointer (some ⟨g, 0, none⟩), .int .i64 40] rfl zq6 ?_; (with_reducible refine (spec_l1Cur_pick.calls g s0_0 t265 t266 40 t267 t268 t269 w0 _ ?side1 ?side2 A4.out).mono ?_); (case side1 => exact z51_0 HI0); (case side2 => exact z51_1 HB); rintro e w38 ⟨rfl, hi, hb, hk⟩; refine ⟨_, rfl, ?_⟩; replace HO264 := Aside0.mk (Kd.R_mono (Kd.R_keep (IsS67.apart (show IsS67 w0 _ g s0_0 t265 t266 from (z51_0 HI0)) (zq3 HO264) (by decide)) hk (fun _ h => h.2)) (fun _ h => h.1)); replace HK := Aside0.mk (KeepBut.trans (z51_2 HK) hk (.inl rfl)); replace HB := Aside0.mk (hb); replace HI0 := Aside0.mk (hi); (try clear hb); (try clear hb2); (try clear hk); (try clear hi)))
     go_loopg [5, 6] k (fun kq v5 v6 w' => ∃ (x5_1 : List (S51)) (x6_1 : Int) (x1001_1 : Int) (x1002_1 : Int), v6 = .int .i64 x6_1 ∧ Aside0 (spec_l1Cur_anyPoly.l0 kq x5_1 x6_1 s0_0 x1001_1 x1002_1 = some (r1, r2, r3)) ∧ Aside0 (kq ≤ k) ∧ Aside0 (Kd.R k51 51 w' w.heap.size (fun _ => True) v5 x5_1) ∧ Aside0 (IsS67 w0 w' g s0_0 x1001_1 x1002_1) ∧ Aside0 (KeepBut w w' g none) ∧ Aside0 (Below w0.heap.size w0 w'))
     case atStart => exact ⟨(([] : List (S51))), (0), (t268), (t269), (by first | rfl | (simp; done) | (simp [*]; done)), H', ⟨Nat.le_refl _⟩, ⟨by first | exact Kd.R_nil _ _ _ _ _ | exact Kd.N_nil _ _ _ _ _ | exact Kd.V_nil _ _ _ _ _ | exact Kd.Q_nil _ _ _ _ _ | exact Kd.S_nil _ _ _ _ _⟩, ⟨(z51_0 HI0)⟩, ⟨(z51_2 HK)⟩, ⟨(z51_1 HB)⟩⟩
     case round =>
      clear H'
      try clear c1
      try clear p2
      try clear c3
      try clear c5
      try clear c5b0
      try clear c5b1
      try clear c6
      try clear c7
      try clear c8
      try clear c15
      try clear c15b0
      try clear c15b1
      try clear c18
      try clear c30
      try clear c30b0
      try clear c30b1
      try clear c31
      try clear c36
      try clear c36b0
      try clear c36b1
      obtain ⟨x5_1, x6_1, x1001_1, x1002_1, rfl, HA, HK1, HO_5, HI0, HK, HB⟩ := hrel
      cases gk with
      | zero => exact absurd HA.out (by simp [spec_l1Cur_anyPoly.l0])
      | succ k1 =>
       have H := HA.out
       clear HA
       simp only [spec_l1Cur_anyPoly.l0] at H
       by_cases c39 : x6_1 ≤ 4
       ·
        rw [if_pos c39] at H
        have c39b0 : decide (x6_1 ≤ 4) = true := decide_eq_true c39
        clear c39
        have H' := Aside0.mk H
        clear H
        go_wp2
        go_loopg [5, 7] k1 (fun kq v5 v7 w' => ∃ (x5_2 : List (S51)) (x7_2 : Int) (x1001_2 : Int) (x1002_2 : Int), v7 = .int .i64 x7_2 ∧ Aside0 (spec_l1Cur_anyPoly.l1 kq x5_2 x6_1 x7_2 s0_0 x1001_2 x1002_2 = some (r1, r2, r3)) ∧ Aside0 (kq ≤ k1) ∧ Aside0 (Kd.R k51 51 w' w.heap.size (fun _ => True) v5 x5_2) ∧ Aside0 (IsS67 w0 w' g s0_0 x1001_2 x1002_2) ∧ Aside0 (KeepBut w w' g none) ∧ Aside0 (Below w0.heap.size w0 w'))
        case atStart => exact ⟨(x5_1), (0), (x1001_1), (x1002_1), (by first | rfl | (simp; done) | (simp [*]; done)), H', ⟨Nat.le_refl _⟩, ⟨by (with_reducible repeat (first | apply Kd.R_alloc | apply Kd.R_drewN | apply Kd.R_drew)); exact HO_5.out⟩, ⟨(z51_0 HI0)⟩, ⟨(z51_2 HK)⟩, ⟨(z51_1 HB)⟩⟩
        case round =>
         clear H'
         try clear c1
         try clear p2
         try clear c3
         try clear c5
         try clear c5b0
         try clear c5b1
         try clear c6
         try clear c7
         try clear c8
         try clear c15
         try clear c15b0
         try clear c15b1
         try clear c18
         try clear c30
         try clear c30b0
         try clear c30b1
         try clear c31
         try clear c36
         try clear c36b0
         try clear c36b1
         try clear c39
         try clear c39b0
         try clear p2
         obtain ⟨x5_2, x7_2, x1001_2, x1002_2, rfl, HA, HK2, HO_5, HI0, HK, HB⟩ := hrel
         cases gk with
         | zero => exact absurd HA.out (by simp [spec_l1Cur_anyPoly.l1])
         | succ k2 =>
          have H := HA.out
          clear HA
          simp only [spec_l1Cur_anyPoly.l1] at H
          by_cases c40 : (wrap64 (x6_1 + x7_2)) ≤ 4
          ·
           rw [if_pos c40] at H
           have c40b0 : decide ((wrap64 (x6_1 + x7_2)) ≤ 4) = true := decide_eq_true c40
           clear c40
           have H' := Aside0.mk H
           clear H
           go_wp2
           go_loopg [5, 8] k2 (fun kq v5 v8 w' => ∃ (x5_3 : List (S51)) (x8_3 : Int) (x1001_3 : Int) (x1002_3 : Int), v8 = .int .i64 x8_3 ∧ Aside0 (spec_l1Cur_anyPoly.l2 kq x5_3 x6_1 x7_2 x8_3 s0_0 x1001_3 x1002_3 = some (r1, r2, r3)) ∧ Aside0 (kq ≤ k2) ∧ Aside0 (Kd.R k51 51 w' w.heap.size (fun _ => True) v5 x5_3) ∧ Aside0 (IsS67 w0 w' g s0_0 x1001_3 x1002_3) ∧ Aside0 (KeepBut w w' g none) ∧ Aside0 (Below w0.heap.size w0 w'))
           case atStart => exact ⟨(x5_2), (0), (x1001_2), (x1002_2), (by first | rfl | (simp; done) | (simp [*]; done)), H', ⟨Nat.le_refl _⟩, ⟨by (with_reducible repeat (first | apply Kd.R_alloc | apply Kd.R_drewN | apply Kd.R_drew)); exact HO_5.out⟩, ⟨(z51_0 HI0)⟩, ⟨(z51_2 HK)⟩, ⟨(z51_1 HB)⟩⟩
           case round =>
            clear H'
            try clear c1
            try clear p2
            try clear c3
            try clear c4
            try clear c5
            try clear c5b0
            try clear c5b1
            try clear c6
            try clear p6
            try clear c7
            try clear c8
            try clear c15
            try clear c15b0
            try clear c15b1
            try clear c18
            try clear c30
            try clear c30b0
            try clear c30b1
            try clear c31
            try clear c36
            try clear c36b0
            try clear c36b1
            try clear c39
            try clear c39b0
            try clear c40
            try clear c40b0
            try clear p2
            obtain ⟨x5_3, x8_3, x1001_3, x1002_3, rfl, HA, HK3, HO_5, HI0, HK, HB⟩ := hrel
            cases gk with
            | zero => exact absurd HA.out (by simp [spec_l1Cur_anyPoly.l2])
            | succ k3 =>
             have H := HA.out
             clear HA
             simp only [spec_l1Cur_anyPoly.l2] at H
             by_cases c41 : (wrap64 ((wrap64 (x6_1 + x7_2)) + x8_3)) ≤ 4
             ·
              rw [if_pos c41] at H
              have c41b0 : decide ((wrap64 ((wrap64 (x6_1 + x7_2)) + x8_3)) ≤ 4) = true := decide_eq_true c41
              clear c41
              replace H := Option.bind_eq_some_iff.mp H
              obtain ⟨⟨t297, t298, t299⟩, A420, H⟩ := H
              replace H : (if (x5_3.length : Int) < (wrap64 (20 + t297)) then (if x5_3.length < 4398046511104 then (spec_l1Cur_anyPoly.l2 k3 (x5_3 ++ [(⟨1, x6_1, x7_2, x8_3⟩ : S51)]) x6_1 x7_2 (wrap64 (x8_3 + 1)) s0_0 t298 t299) else (none)) else (spec_l1Cur_anyPoly.l1 k3 x5_3 x6_1 (wrap64 (x7_2 + 1)) s0_0 t298 t299)) = some (r1, r2, r3) := H
              have A42 := Aside0.mk A420
              clear A420
              by_cases c43 : (x5_3.length : Int) < (wrap64 (20 + t297))
              ·
               rw [if_pos c43] at H
               have c43b0 : decide ((x5_3.length : Int) < (wrap64 (20 + t297))) = true := decide_eq_true c43
               clear c43
               by_cases c44 : x5_3.length < 4398046511104
               ·
                rw [if_pos c44] at H
                have LMc44 := Aside0.mk c44
                clear c44
                obtain ⟨y300, hy300⟩ : ∃ y_ : List (S51), y_ = (x5_3 ++ [(⟨1, x6_1, x7_2, x8_3⟩ : S51)]) := ⟨_, rfl⟩
                replace H : (spec_l1Cur_anyPoly.l2 k3 y300 x6_1 x7_2 (wrap64 (x8_3 + 1)) s0_0 t298 t299) = some (r1, r2, r3) := by first | (rw [hy300]; with_reducible exact H) | (have H2_ := (Option.bind_some _ _).symm.trans H; rw [hy300]; with_reducible exact H2_) | (have H2_ := (Option.bind_some _ _).symm.trans H; with_reducible exact H2_) | with_reducible exact H | (rw [hy300]; exact H) | exact H
                have Ny300 := Aside0.mk hy300
                clear hy300
                have H' := Aside0.mk H
                clear H
                obtain ⟨Ao45, co45, eo45⟩ := Kd.R_slice HO_5.out
                subst eo45
                go_wp2_with (first | (go_at_call 50; (with_reducible refine (spec_l1Cur_pick.calls g s0_0 x1001_3 x1002_3 2 t297 t298 t299 w0 _ ?side1 ?side2 A42.out).mono ?_); (case side1 => exact z51_0 HI0); (case side2 => exact z51_1 HB); rintro e w46 ⟨rfl, hi, hb, hk⟩; replace HO_5 := Aside0.mk (Kd.R_mono (Kd.R_keep (IsS67.apart (show IsS67 w0 _ g s0_0 x1001_3 x1002_3 from (z51_0 HI0)) (zq3 HO_5) (by decide)) hk (fun _ h => h.2)) (fun _ h => h.1)); replace HK := Aside0.mk (KeepBut.trans (z51_2 HK) hk (.inl rfl)); replace HB := Aside0.mk (hb); replace HI0 := Aside0.mk (hi); (try clear hb); (try clear hb2); (try clear hk); (try clear hi)) | ((with_reducible refine gate_builtin (b := .append) (xs := #[.tmp 68, .tmp 73]) rfl ?_); (try (refine gate_guard (by rfl) ?_; dsimp only)); at_builtin; refine Kd.R_append k51 w.heap.size rfl (.tmp 68) (.tmp 73) 25 51 (.agg #[(.int .i64 0), (.int .i64 0), (.int .i64 0), (.int .i64 0)]) 32 rfl Try.underlying25 info51 rfl (by decide) (by omega) (.slice Ao45 x5_3.length co45) x5_3 (⟨1, x6_1, x7_2, x8_3⟩ : S51) [.int .i64 1, .int .i64 x6_1, .int .i64 x7_2, .int .i64 x8_3] (fun _ => True) (fun _ => False) rfl rfl ?aP (fun _ hk => hk.elim) ?aF ?aO (Below.refl _ _) ?aS ?aL ?_; (case aP => exact k51_mkM _ _ _ (⟨1, x6_1, x7_2, x8_3⟩ : S51)); (case aF => exact (fun _ _ => trivial)); (case aO => exact (zq3 HO_5)); (case aS => exact (keep_size (w := w) (g := g) (row := none) (z51_2 HK))); (case aL => have := LMc44.out; omega); intro v301 w47 ho hb hg hat; rw [← Ny300.out] at ho; have HO302 := Aside0.mk (ho); replace HI0 := Aside0.mk (IsS67.grown (z51_0 HI0) hg (IsS67.own_ne HI0.out HO_5.out (by decide))); replace HB := Aside0.mk (below_weaken (z51_1 HB) HL.out hb); replace HK := Aside0.mk (KeepBut.trans (z51_2 HK) (KeepBut.of_grown hg g) (Kd.R_base2 HO_5.out)); clear HO_5; clear ho hb hg hat))
                go_roundg k3
                case measure => have := HK1.out; have := HK2.out; have := HK3.out; omega
                case rel => exact ⟨(y300), (wrap64 (x8_3 + 1)), (t298), (t299), (by first | rfl | (simp; done) | (simp [*]; done)), H', ⟨by have := HK1.out; have := HK2.out; have := HK3.out; omega⟩, ⟨by (with_reducible repeat (first | apply Kd.R_alloc | apply Kd.R_drewN | apply Kd.R_drew)); exact HO302.out⟩, ⟨(z51_0 HI0)⟩, ⟨(z51_2 HK)⟩, ⟨(z51_1 HB)⟩⟩
               ·
                rw [if_neg c44] at H
                exact absurd H (by simp)
              ·
               rw [if_neg c43] at H
               have c43b0 : decide ((x5_3.length : Int) < (wrap64 (20 + t297))) = false := decide_eq_false c43
               clear c43
               have H' := Aside0.mk H
               clear H
               obtain ⟨Ao48, co48, eo48⟩ := Kd.R_slice HO_5.out
               subst eo48
               go_wp2_with (first | (go_at_call 50; (with_reducible refine (spec_l1Cur_pick.calls g s0_0 x1001_3 x1002_3 2 t297 t298 t299 w0 _ ?side1 ?side2 A42.out).mono ?_); (case side1 => exact z51_0 HI0); (case side2 => exact z51_1 HB); rintro e w49 ⟨rfl, hi, hb, hk⟩; replace HO_5 := Aside0.mk (Kd.R_mono (Kd.R_keep (IsS67.apart (show IsS67 w0 _ g s0_0 x1001_3 x1002_3 from (z51_0 HI0)) (zq3 HO_5) (by decide)) hk (fun _ h => h.2)) (fun _ h => h.1)); replace HK := Aside0.mk (KeepBut.trans (z51_2 HK) hk (.inl rfl)); replace HB := Aside0.mk (hb); replace HI0 := Aside0.mk (hi); (try clear hb); (try clear hb2); (try clear hk); (try clear hi)))
               go_roundg k3
               case measure => have := HK1.out; have := HK2.out; have := HK3.out; omega
               case rel => exact ⟨(x5_3), (wrap64 (x7_2 + 1)), (t298), (t299), (by first | rfl | (simp; done) | (simp [*]; done)), H', ⟨by have := HK1.out; have := HK2.out; have := HK3.out; omega⟩, ⟨by (with_reducible repeat (first | apply Kd.R_alloc | apply Kd.R_drewN | apply Kd.R_drew)); exact HO_5.out⟩, ⟨(z51_0 HI0)⟩, ⟨(z51_2 HK)⟩, ⟨(z51_1 HB)⟩⟩
             ·
              rw [if_neg c41] at H
              have c41b0 : decide ((wrap64 ((wrap64 (x6_1 + x7_2)) + x8_3)) ≤ 4) = false := decide_eq_false c41
              clear c41
              have H' := Aside0.mk H
              clear H
              go_wp2
              go_roundg k3
              case measure => have := HK1.out; have := HK2.out; have := HK3.out; omega
              case rel => exact ⟨(x5_3), (wrap64 (x7_2 + 1)), (x1001_3), (x1002_3), (by first | rfl | (simp; done) | (simp [*]; done)), H', ⟨by have := HK1.out; have := HK2.out; have := HK3.out; omega⟩, ⟨by (with_reducible repeat (first | apply Kd.R_alloc | apply Kd.R_drewN | apply Kd.R_drew)); exact HO_5.out⟩, ⟨(z51_0 HI0)⟩, ⟨(z51_2 HK)⟩, ⟨(z51_1 HB)⟩⟩
          ·
           rw [if_neg c40] at H
           have c40b0 : decide ((wrap64 (x6_1 + x7_2)) ≤ 4) = false := decide_eq_false c40
           clear c40
           have H' := Aside0.mk H
           clear H
           go_wp2
           go_roundg k2
           case measure => have := HK1.out; have := HK2.out; omega
           case rel => exact ⟨(x5_2), (wrap64 (x6_1 + 1)), (x1001_2), (x1002_2), (by first | rfl | (simp; done) | (simp [*]; done)), H', ⟨by have := HK1.out; have := HK2.out; omega⟩, ⟨by (with_reducible repeat (first | apply Kd.R_alloc | apply Kd.R_drewN | apply Kd.R_drew)); exact HO_5.out⟩, ⟨(z51_0 HI0)⟩, ⟨(z51_2 HK)⟩, ⟨(z51_1 HB)⟩⟩
       ·
        rw [if_neg c39] at H
        have c39b0 : decide (x6_1 ≤ 4) = false := decide_eq_false c39
        clear c39
        simp only [Option.some.injEq, Prod.mk.injEq] at H
        obtain ⟨rfl, rfl, rfl⟩ := H
        go_wp2
        go_ret
        exact ⟨_, by first | rfl | (simp [errW_none, errW_some] <;> rfl) | (simp [*, errW_none, errW_some] <;> rfl), by (with_reducible repeat (first | apply Kd.R_alloc | apply Kd.R_drewN | apply Kd.R_drew)); exact HO_5.out, (z51_0 HI0), (z51_1 HB), (z51_2 HK)⟩
    ·
     rw [if_neg c36] at H
     have c36b0 : (t267 == 3) = false := beq_eq_false_iff_ne.mpr c36
     have c36b1 : (t267 != 3) = true := bne_iff_ne.mpr c36
     simp only [Option.some.injEq, Prod.mk.injEq] at H
     obtain ⟨rfl, rfl, rfl⟩ := H
     go_enter Try.func51, Try.ntmps51
     go_wp2_with (first | ((with_reducible refine gate_callee (f := 82) rfl ?_); refine goesL_ (some 11) rfl rfl Try.func82 (by kernel_rfl) rfl #[.pointer (some ⟨g, 0, none⟩), .int .i64 a1] rfl zq6 ?_; (with_reducible refine (spec_l1Cur_poly.calls k g s0_0 s0_1 s0_2 a1 t262 t265 t266 w0 _ ?side1 ?side2 A3.out).mono ?_); (case side1 => exact z51_0 HI0); (case side2 => exact z51_1 HB); rintro e w50 ⟨v263, rfl, ho0, hi, hb, hk⟩; refine ⟨_, rfl, ?_⟩; have HO264 := Aside0.mk (Kd.R_lower ho0 (keep_size (w := w) (g := g) (row := none) (z51_2 HK))); replace HK := Aside0.mk (KeepBut.trans (z51_2 HK) hk (.inl rfl)); replace HB := Aside0.mk (hb); replace HI0 := Aside0.mk (hi); (try clear hb); (try clear hb2); (try clear hk); (try clear hi); (try clear ho0)) | ((with_reducible refine gate_callee (f := 50) rfl ?_); refine goesL_ (some 13) rfl rfl Try.func50 (by kernel_rfl) rfl #[.pointer (some ⟨g, 0, none⟩), .int .i64 40] rfl zq6 ?_; (with_reducible refine (spec_l1Cur_pick.calls g s0_0 t265 t266 40 t267 t268 t269 w0 _ ?side1 ?side2 A4.out).mono ?_); (case side1 => exact z51_0 HI0); (case side2 => exact z51_1 HB); rintro e w51 ⟨rfl, hi, hb, hk⟩; refine ⟨_, rfl, ?_⟩; replace HO264 := Aside0.mk (Kd.R_mono (Kd.R_keep (IsS67.apart (show IsS67 w0 _ g s0_0 t265 t266 from (z51_0 HI0)) (zq3 HO264) (by decide)) hk (fun _ h => h.2)) (fun _ h => h.1)); replace HK := Aside0.mk (KeepBut.trans (z51_2 HK) hk (.inl rfl)); replace HB := Aside0.mk (hb); replace HI0 := Aside0.mk (hi); (try clear hb); (try clear hb2); (try clear hk); (try clear hi)))
     go_ret
     exact ⟨_, by first | rfl | (simp [errW_none, errW_some] <;> rfl) | (simp [*, errW_none, errW_some] <;> rfl), by (with_reducible repeat (first | apply Kd.R_alloc | apply Kd.R_drewN | apply Kd.R_drew)); exact HO264.out, (z51_0 HI0), (z51_1 HB), (z51_2 HK)⟩
/-! ### spec_poMul: function 53 -/
set_option maxHeartbeats 8000000 in
set_option maxRecDepth 100000 in
theorem spec_poMul.calls (k : Nat) (A0 : Option Addr) (c0 : Nat) (l0 : List (S51)) (A1 : Option Addr) (c1 : Nat) (l1 : List (S51)) (r1 : List (S51)) (r2 : Bool) (w : World) (hr0 : Kd.C k51 w A0 l0.length l0) (hc0 : l0.length ≤ c0) (hr1 : Kd.C k51 w A1 l1.length l1) (hc1 : l1.length ≤ c1) (h : spec_poMul.f k l0 l1 = some (r1, r2)) :
  Calls Try.prog 53 #[.slice A0 l0.length c0, .slice A1 l1.length c1] w fun e w' => ∃ v0_ : Value, e = .returned (.tuple #[v0_, .bool r2]) ∧ Kd.R k51 51 w' w.heap.size (fun _ => True) v0_ r1 ∧ Below w.heap.size w w' := by
 have hu51 := Try.underlying51
 have HR0 := Aside0.mk hr0
 have HC0 := Aside0.mk hc0
 clear hr0 hc0
 have HR1 := Aside0.mk hr1
 have HC1 := Aside0.mk hc1
 clear hr1 hc1
 have HB := Aside0.mk (Below.refl w.heap.size w)
 have H : (spec_poMul.l0 k l1 ([] : List (S51)) l0 (l0.length : Int) 0) = some (r1, r2) := h
 clear h
 have H' := Aside0.mk H
 clear H
 go_enter Try.func53, Try.ntmps53
 go_wp2
 go_loopg [6, 13] k (fun kq v6 v13 w' => ∃ (x6_1 : List (S51)) (x13_1 : Int), v13 = .int .i64 x13_1 ∧ Aside0 (spec_poMul.l0 kq l1 x6_1 l0 (l0.length : Int) x13_1 = some (r1, r2)) ∧ Aside0 (kq ≤ k) ∧ Aside0 (Kd.R k51 51 w' w.heap.size (fun _ => True) v6 x6_1) ∧ Aside0 (Below w.heap.size w w'))
 case atStart => exact ⟨(([] : List (S51))), (0), (by first | rfl | (simp; done) | (simp [*]; done)), H', ⟨Nat.le_refl _⟩, ⟨by first | exact Kd.R_nil _ _ _ _ _ | exact Kd.N_nil _ _ _ _ _ | exact Kd.V_nil _ _ _ _ _ | exact Kd.Q_nil _ _ _ _ _ | exact Kd.S_nil _ _ _ _ _⟩, ⟨(zb0 HB)⟩⟩
 case round =>
  clear H'
  try clear c1
  try clear p2
  obtain ⟨x6_1, x13_1, rfl, HA, HK1, HO_6, HB⟩ := hrel
  cases gk with
  | zero => exact absurd HA.out (by simp [spec_poMul.l0])
  | succ k1 =>
   have H := HA.out
   clear HA
   simp only [spec_poMul.l0] at H
   by_cases c3 : x13_1 < (l0.length : Int)
   ·
    rw [if_pos c3] at H
    have c3b0 : decide (x13_1 < (l0.length : Int)) = true := decide_eq_true c3
    clear c3
    by_cases c4 : 0 ≤ x13_1
    ·
     rw [if_pos c4] at H
     have c4b0 : decide (0 ≤ x13_1) = true := decide_eq_true c4
     clear c4
     by_cases c5 : x13_1 < (l0.length : Int)
     ·
      rw [if_pos c5] at H
      have c5b0 : decide (x13_1 < (l0.length : Int)) = true := decide_eq_true c5
      clear c5
      have H' := Aside0.mk H
      clear H
      have p307 : 0 ≤ (x13_1 : Int) := of_decide_eq_true (by first | (with_reducible assumption) | assumption)
      have q307 : x13_1 < (l0.length : Int) := of_decide_eq_true (by first | (with_reducible assumption) | assumption)
      obtain ⟨ad307, e307, hx307_0, hx307_1, hx307_2, hx307_3⟩ := at_T51 HR0.out x13_1 p307 q307
      cases e307
      replace hx307_0 := pw_cell_below HB.out hx307_0
      replace hx307_1 := pw_cell_below HB.out hx307_1
      replace hx307_2 := pw_cell_below HB.out hx307_2
      replace hx307_3 := pw_cell_below HB.out hx307_3
      replace p307 := eq_true p307
      replace q307 := eq_true q307
      go_wp2_with (first | ((with_reducible refine gate_dst (N := 8) rfl ?_); refine zbe (N := 8) (cs := #[.int .i64 0, .int .i64 0, .int .i64 0, .int .i64 0]) (t := 51) ?_; intro gb308 hg w6 hbox hb; have BK308 := Aside0.mk (hbox); have GW308 := Aside0.mk (zge (zb0 HB) hg); have GE308 := GW308; replace HO_6 := Aside0.mk (Kd.R_below (Kd.R_elderB (zq3 HO_6) gb308 (Nat.le_of_eq hg.symm)) hb); replace HB := Aside0.mk (below_step (zb0 HB) hb); clear hb hbox hg; have hcz7_0 : w6.cell? ⟨gb308, 0, none⟩ = some (.int .i64 0) := zc BK308 0; have hcz7_1 : w6.cell? ⟨gb308, 1, none⟩ = some (.int .i64 0) := zc BK308 1; have hcz7_2 : w6.cell? ⟨gb308, 2, none⟩ = some (.int .i64 0) := zc BK308 2; have hcz7_3 : w6.cell? ⟨gb308, 3, none⟩ = some (.int .i64 0) := zc BK308 3; have hfz7_0 := blk_frozen BK308.out 0; have hfz7_1 := blk_frozen BK308.out 1; have hfz7_2 := blk_frozen BK308.out 2; have hfz7_3 := blk_frozen BK308.out 3))
      go_loopg [6, 19] k1 (fun kq v6 v19 w' => ∃ (x6_2 : List (S51)) (x19_2 : Int), v19 = .int .i64 x19_2 ∧ Aside0 (spec_poMul.l1 kq l1 x6_2 l0 (l0.length : Int) x13_1 l1 (l1.length : Int) x19_2 ((rd_T51 l0 x13_1).f0) ((rd_T51 l0 x13_1).f1) ((rd_T51 l0 x13_1).f2) ((rd_T51 l0 x13_1).f3) = some (r1, r2)) ∧ Aside0 (kq ≤ k1) ∧ Aside0 (Kd.R k51 51 w' w.heap.size (fun k_ => k_ ≠ gb308) v6 x6_2) ∧ Aside0 (w'.heap[gb308]? = some (.cells #[.int .i64 ((rd_T51 l0 x13_1).f0), .int .i64 ((rd_T51 l0 x13_1).f1), .int .i64 ((rd_T51 l0 x13_1).f2), .int .i64 ((rd_T51 l0 x13_1).f3)] 51 (0, 0))) ∧ Aside0 (Below w.heap.size w w'))
      case atStart => exact ⟨(x6_1), (0), (by first | rfl | (simp; done) | (simp [*]; done)), H', ⟨Nat.le_refl _⟩, ⟨by (with_reducible repeat (first | apply Kd.R_alloc | apply Kd.R_drewN | apply Kd.R_drew)); exact Kd.R_mono (Kd.R_far (p := ⟨gb308, 3, none⟩) (Kd.R_far (p := ⟨gb308, 2, none⟩) (Kd.R_far (p := ⟨gb308, 1, none⟩) (Kd.R_far (p := ⟨gb308, 0, none⟩) (Kd.R_mono HO_6.out (fun k_ hk => (⟨hk, hk.2⟩ : _ ∧ k_ ≠ gb308))) (fun _ hk => hk.2) (.int .i64 ((rd_T51 l0 x13_1).f0))) (fun _ hk => hk.2) (.int .i64 ((rd_T51 l0 x13_1).f1))) (fun _ hk => hk.2) (.int .i64 ((rd_T51 l0 x13_1).f2))) (fun _ hk => hk.2) (.int .i64 ((rd_T51 l0 x13_1).f3))) (fun _ hk => hk.1.2)⟩, ⟨by (with_reducible repeat (first | refine blk_drewN ?_ _ | refine blk_drew ?_ | refine blk_alloc ?_ _)); refine blk_put (cs := #[.int .i64 ((rd_T51 l0 x13_1).f0), .int .i64 ((rd_T51 l0 x13_1).f1), .int .i64 ((rd_T51 l0 x13_1).f2), .int .i64 0]) ?_ 3 _ rfl; (with_reducible repeat (first | refine blk_drewN ?_ _ | refine blk_drew ?_ | refine blk_alloc ?_ _)); refine blk_put (cs := #[.int .i64 ((rd_T51 l0 x13_1).f0), .int .i64 ((rd_T51 l0 x13_1).f1), .int .i64 0, .int .i64 0]) ?_ 2 _ rfl; (with_reducible repeat (first | refine blk_drewN ?_ _ | refine blk_drew ?_ | refine blk_alloc ?_ _)); refine blk_put (cs := #[.int .i64 ((rd_T51 l0 x13_1).f0), .int .i64 0, .int .i64 0, .int .i64 0]) ?_ 1 _ rfl; (with_reducible repeat (first | refine blk_drewN ?_ _ | refine blk_drew ?_ | refine blk_alloc ?_ _)); refine blk_put (cs := #[.int .i64 0, .int .i64 0, .int .i64 0, .int .i64 0]) ?_ 0 _ rfl; (with_reducible repeat (first | refine blk_drewN ?_ _ | refine blk_drew ?_ | refine blk_alloc ?_ _)); exact BK308.out⟩, ⟨(zb1 HB)⟩⟩
      case round =>
       clear H'
       try clear c1
       try clear p2
       try clear c3
       try clear c3b0
       try clear p3
       try clear q3
       try clear hx3
       try clear c4
       try clear c4b0
       try clear c5
       try clear c5b0
       try clear hcz7_0
       try clear hcz7_1
       try clear hcz7_2
       try clear hcz7_3
       try clear hfz7_0
       try clear hfz7_1
       try clear hfz7_2
       try clear hfz7_3
       try clear hx307_0
       try clear hx307_1
       try clear hx307_2
       try clear hx307_3
       try clear p2
       try clear p307
       try clear q307
       obtain ⟨x6_2, x19_2, rfl, HA, HK2, HO_6, BK308, HB⟩ := hrel
       cases gk with
       | zero => exact absurd HA.out (by simp [spec_poMul.l1])
       | succ k2 =>
        have H := HA.out
        clear HA
        simp only [spec_poMul.l1] at H
        by_cases c8 : x19_2 < (l1.length : Int)
        ·
         rw [if_pos c8] at H
         have c8b0 : decide (x19_2 < (l1.length : Int)) = true := decide_eq_true c8
         clear c8
         by_cases c9 : 0 ≤ x19_2
         ·
          rw [if_pos c9] at H
          have c9b0 : decide (0 ≤ x19_2) = true := decide_eq_true c9
          clear c9
          by_cases c10 : x19_2 < (l1.length : Int)
          ·
           rw [if_pos c10] at H
           have c10b0 : decide (x19_2 < (l1.length : Int)) = true := decide_eq_true c10
           clear c10
           by_cases c11 : x6_2.length < 4398046511104
           ·
            rw [if_pos c11] at H
            have LMc11 := Aside0.mk c11
            clear c11
            obtain ⟨y311, hy311⟩ : ∃ y_ : List (S51), y_ = (x6_2 ++ [(⟨wrap64 (((rd_T51 l0 x13_1).f0) * ((rd_T51 l1 x19_2).f0)), wrap64 (((rd_T51 l0 x13_1).f1) + ((rd_T51 l1 x19_2).f1)), wrap64 (((rd_T51 l0 x13_1).f2) + ((rd_T51 l1 x19_2).f2)), wrap64 (((rd_T51 l0 x13_1).f3) + ((rd_T51 l1 x19_2).f3))⟩ : S51)]) := ⟨_, rfl⟩
            replace H : (spec_poMul.l1 k2 l1 y311 l0 (l0.length : Int) x13_1 l1 (l1.length : Int) (wrap64 (x19_2 + 1)) ((rd_T51 l0 x13_1).f0) ((rd_T51 l0 x13_1).f1) ((rd_T51 l0 x13_1).f2) ((rd_T51 l0 x13_1).f3)) = some (r1, r2) := by first | (rw [hy311]; with_reducible exact H) | (have H2_ := (Option.bind_some _ _).symm.trans H; rw [hy311]; with_reducible exact H2_) | (have H2_ := (Option.bind_some _ _).symm.trans H; with_reducible exact H2_) | with_reducible exact H | (rw [hy311]; exact H) | exact H
            have Ny311 := Aside0.mk hy311
            clear hy311
            have H' := Aside0.mk H
            clear H
            have p309 : 0 ≤ (x19_2 : Int) := of_decide_eq_true (by first | (with_reducible assumption) | assumption)
            have q309 : x19_2 < (l1.length : Int) := of_decide_eq_true (by first | (with_reducible assumption) | assumption)
            obtain ⟨ad309, e309, hx309_0, hx309_1, hx309_2, hx309_3⟩ := at_T51 HR1.out x19_2 p309 q309
            cases e309
            replace hx309_0 := pw_cell_below HB.out hx309_0
            replace hx309_1 := pw_cell_below HB.out hx309_1
            replace hx309_2 := pw_cell_below HB.out hx309_2
            replace hx309_3 := pw_cell_below HB.out hx309_3
            replace p309 := eq_true p309
            replace q309 := eq_true q309
            go_wp2_with (first | ((with_reducible refine gate_dst (N := 10) rfl ?_); refine zbe (N := 10) (cs := #[.int .i64 0, .int .i64 0, .int .i64 0, .int .i64 0]) (t := 51) ?_; intro gb310 hg w12 hbox hb; have BK310 := Aside0.mk (hbox); have GW310 := Aside0.mk (zge (zb1 HB) hg); have GE310 := GW310; have NB308_310 := Aside0.mk (zlt BK308 hg); have NB310_308 := Aside0.mk (zgt BK308 hg); replace HO_6 := Aside0.mk (Kd.R_below (Kd.R_elderB (zq3 HO_6) gb310 (Nat.le_of_eq hg.symm)) hb); replace BK308 := Aside0.mk (zbb BK308 hb); replace HB := Aside0.mk (below_step (zb1 HB) hb); clear hb hbox hg; have hnb13 := NB310_308.out; have hnc13 := NB308_310.out; have hcz14_0 : w12.cell? ⟨gb310, 0, none⟩ = some (.int .i64 0) := zc BK310 0; have hcz14_1 : w12.cell? ⟨gb310, 1, none⟩ = some (.int .i64 0) := zc BK310 1; have hcz14_2 : w12.cell? ⟨gb310, 2, none⟩ = some (.int .i64 0) := zc BK310 2; have hcz14_3 : w12.cell? ⟨gb310, 3, none⟩ = some (.int .i64 0) := zc BK310 3; have hfz14_0 := blk_frozen BK310.out 0; have hfz14_1 := blk_frozen BK310.out 1; have hfz14_2 := blk_frozen BK310.out 2; have hfz14_3 := blk_frozen BK310.out 3; have hcz15_0 : w12.cell? ⟨gb308, 0, none⟩ = some (.int .i64 ((rd_T51 l0 x13_1).f0)) := zc BK308 0; have hcz15_1 : w12.cell? ⟨gb308, 1, none⟩ = some (.int .i64 ((rd_T51 l0 x13_1).f1)) := zc BK308 1; have hcz15_2 : w12.cell? ⟨gb308, 2, none⟩ = some (.int .i64 ((rd_T51 l0 x13_1).f2)) := zc BK308 2; have hcz15_3 : w12.cell? ⟨gb308, 3, none⟩ = some (.int .i64 ((rd_T51 l0 x13_1).f3)) := zc BK308 3; have hfz15_0 := blk_frozen BK308.out 0; have hfz15_1 := blk_frozen BK308.out 1; have hfz15_2 := blk_frozen BK308.out 2; have hfz15_3 := blk_frozen BK308.out 3) | ((with_reducible refine gate_builtin (b := .append) (xs := #[.tmp 23, .tmp 45]) rfl ?_); at_builtin; refine Kd.R_append k51 (w0 := w) w.heap.size rfl (.tmp 23) (.tmp 45) 25 51 (.agg #[(.int .i64 0), (.int .i64 0), (.int .i64 0), (.int .i64 0)]) 32 rfl Try.underlying25 info51 rfl (by decide) (by omega) u6 x6_2 (⟨wrap64 (((rd_T51 l0 x13_1).f0) * ((rd_T51 l1 x19_2).f0)), wrap64 (((rd_T51 l0 x13_1).f1) + ((rd_T51 l1 x19_2).f1)), wrap64 (((rd_T51 l0 x13_1).f2) + ((rd_T51 l1 x19_2).f2)), wrap64 (((rd_T51 l0 x13_1).f3) + ((rd_T51 l1 x19_2).f3))⟩ : S51) [.int .i64 (wrap64 (((rd_T51 l0 x13_1).f0) * ((rd_T51 l1 x19_2).f0))), .int .i64 (wrap64 (((rd_T51 l0 x13_1).f1) + ((rd_T51 l1 x19_2).f1))), .int .i64 (wrap64 (((rd_T51 l0 x13_1).f2) + ((rd_T51 l1 x19_2).f2))), .int .i64 (wrap64 (((rd_T51 l0 x13_1).f3) + ((rd_T51 l1 x19_2).f3)))] (fun k_ => k_ ≠ gb308 ∧ k_ ≠ gb310) (fun _ => False) rfl (by first | (go_simp; done) | (go_simp; rfl)) ?aP (fun _ hk => hk.elim) ?aF ?aO ?aB ?aS ?aL ?_; (case aP => exact k51_mkM _ _ _ (⟨wrap64 (((rd_T51 l0 x13_1).f0) * ((rd_T51 l1 x19_2).f0)), wrap64 (((rd_T51 l0 x13_1).f1) + ((rd_T51 l1 x19_2).f1)), wrap64 (((rd_T51 l0 x13_1).f2) + ((rd_T51 l1 x19_2).f2)), wrap64 (((rd_T51 l0 x13_1).f3) + ((rd_T51 l1 x19_2).f3))⟩ : S51)); (case aB => exact (zb1 HB)); (case aF => exact (fun k_ hk => ⟨Kd.freshB (g := gb308) (o := .cells #[.int .i64 ((rd_T51 l0 x13_1).f0), .int .i64 ((rd_T51 l0 x13_1).f1), .int .i64 ((rd_T51 l0 x13_1).f2), .int .i64 ((rd_T51 l0 x13_1).f3)] 51 (0, 0)) (zq5 BK308) k_ hk, Kd.freshB (g := gb310) (o := .cells #[.int .i64 ((rd_T51 l1 x19_2).f0), .int .i64 ((rd_T51 l1 x19_2).f1), .int .i64 ((rd_T51 l1 x19_2).f2), .int .i64 ((rd_T51 l1 x19_2).f3)] 51 (0, 0)) (by (with_reducible repeat (first | refine blk_drewN ?_ _ | refine blk_drew ?_ | refine blk_alloc ?_ _)); refine blk_put (cs := #[.int .i64 ((rd_T51 l1 x19_2).f0), .int .i64 ((rd_T51 l1 x19_2).f1), .int .i64 ((rd_T51 l1 x19_2).f2), .int .i64 0]) ?_ 3 _ rfl; (with_reducible repeat (first | refine blk_drewN ?_ _ | refine blk_drew ?_ | refine blk_alloc ?_ _)); refine blk_put (cs := #[.int .i64 ((rd_T51 l1 x19_2).f0), .int .i64 ((rd_T51 l1 x19_2).f1), .int .i64 0, .int .i64 0]) ?_ 2 _ rfl; (with_reducible repeat (first | refine blk_drewN ?_ _ | refine blk_drew ?_ | refine blk_alloc ?_ _)); refine blk_put (cs := #[.int .i64 ((rd_T51 l1 x19_2).f0), .int .i64 0, .int .i64 0, .int .i64 0]) ?_ 1 _ rfl; (with_reducible repeat (first | refine blk_drewN ?_ _ | refine blk_drew ?_ | refine blk_alloc ?_ _)); refine blk_put (cs := #[.int .i64 0, .int .i64 0, .int .i64 0, .int .i64 0]) ?_ 0 _ rfl; (with_reducible repeat (first | refine blk_drewN ?_ _ | refine blk_drew ?_ | refine blk_alloc ?_ _)); exact BK310.out) k_ hk⟩)); (case aO => exact (by (with_reducible repeat (first | apply Kd.R_alloc | apply Kd.R_drewN | apply Kd.R_drew)); exact Kd.R_mono (Kd.R_far (p := ⟨gb310, 3, none⟩) (Kd.R_far (p := ⟨gb310, 2, none⟩) (Kd.R_far (p := ⟨gb310, 1, none⟩) (Kd.R_far (p := ⟨gb310, 0, none⟩) (Kd.R_mono HO_6.out (fun k_ hk => (⟨hk, hk.2⟩ : _ ∧ k_ ≠ gb310))) (fun _ hk => hk.2) (.int .i64 ((rd_T51 l1 x19_2).f0))) (fun _ hk => hk.2) (.int .i64 ((rd_T51 l1 x19_2).f1))) (fun _ hk => hk.2) (.int .i64 ((rd_T51 l1 x19_2).f2))) (fun _ hk => hk.2) (.int .i64 ((rd_T51 l1 x19_2).f3))) (fun _ hk => ⟨hk.1.1, hk.1.2⟩))); (case aS => exact (below_size (zb1 HB))); (case aL => have := LMc11.out; omega); intro v312 w16 ho hb hg hat; rw [← Ny311.out] at ho; have HO313 := Aside0.mk (ho); replace BK308 := Aside0.mk (blk_grown (g := gb308) (o := .cells #[.int .i64 ((rd_T51 l0 x13_1).f0), .int .i64 ((rd_T51 l0 x13_1).f1), .int .i64 ((rd_T51 l0 x13_1).f2), .int .i64 ((rd_T51 l0 x13_1).f3)] 51 (0, 0)) (zq5 BK308) hg (Kd.R_away HO_6.out (fun _ hk => hk.1))); replace BK310 := Aside0.mk (blk_grown (g := gb310) (o := .cells #[.int .i64 ((rd_T51 l1 x19_2).f0), .int .i64 ((rd_T51 l1 x19_2).f1), .int .i64 ((rd_T51 l1 x19_2).f2), .int .i64 ((rd_T51 l1 x19_2).f3)] 51 (0, 0)) (by (with_reducible repeat (first | refine blk_drewN ?_ _ | refine blk_drew ?_ | refine blk_alloc ?_ _)); refine blk_put (cs := #[.int .i64 ((rd_T51 l1 x19_2).f0), .int .i64 ((rd_T51 l1 x19_2).f1), .int .i64 ((rd_T51 l1 x19_2).f2), .int .i64 0]) ?_ 3 _ rfl; (with_reducible repeat (first | refine blk_drewN ?_ _ | refine blk_drew ?_ | refine blk_alloc ?_ _)); refine blk_put (cs := #[.int .i64 ((rd_T51 l1 x19_2).f0), .int .i64 ((rd_T51 l1 x19_2).f1), .int .i64 0, .int .i64 0]) ?_ 2 _ rfl; (with_reducible repeat (first | refine blk_drewN ?_ _ | refine blk_drew ?_ | refine blk_alloc ?_ _)); refine blk_put (cs := #[.int .i64 ((rd_T51 l1 x19_2).f0), .int .i64 0, .int .i64 0, .int .i64 0]) ?_ 1 _ rfl; (with_reducible repeat (first | refine blk_drewN ?_ _ | refine blk_drew ?_ | refine blk_alloc ?_ _)); refine blk_put (cs := #[.int .i64 0, .int .i64 0, .int .i64 0, .int .i64 0]) ?_ 0 _ rfl; (with_reducible repeat (first | refine blk_drewN ?_ _ | refine blk_drew ?_ | refine blk_alloc ?_ _)); exact BK310.out) hg (Kd.R_away HO_6.out (fun _ hk => hk.2))); replace HB := Aside0.mk (hb); clear HO_6; clear ho hb hg hat))
            go_roundg k2
            case measure => have := HK1.out; have := HK2.out; omega
            case rel => exact ⟨(y311), (wrap64 (x19_2 + 1)), (by first | rfl | (simp; done) | (simp [*]; done)), H', ⟨by have := HK1.out; have := HK2.out; omega⟩, ⟨by (with_reducible repeat (first | apply Kd.R_alloc | apply Kd.R_drewN | apply Kd.R_drew)); exact Kd.R_mono HO313.out (fun _ hk => hk.1)⟩, ⟨by (with_reducible repeat (first | refine blk_drewN ?_ _ | refine blk_drew ?_ | refine blk_alloc ?_ _)); exact BK308.out⟩, ⟨(zb1 HB)⟩⟩
           ·
            rw [if_neg c11] at H
            exact absurd H (by simp)
          ·
           rw [if_neg c10] at H
           exact absurd H (by simp)
         ·
          rw [if_neg c9] at H
          exact absurd H (by simp)
        ·
         rw [if_neg c8] at H
         have c8b0 : decide (x19_2 < (l1.length : Int)) = false := decide_eq_false c8
         clear c8
         have H' := Aside0.mk H
         clear H
         go_wp2
         go_roundg k2
         case measure => have := HK1.out; have := HK2.out; omega
         case rel => exact ⟨(x6_2), (wrap64 (x13_1 + 1)), (by first | rfl | (simp; done) | (simp [*]; done)), H', ⟨by have := HK1.out; have := HK2.out; omega⟩, ⟨by (with_reducible repeat (first | apply Kd.R_alloc | apply Kd.R_drewN | apply Kd.R_drew)); exact Kd.R_mono HO_6.out (fun _ hk => trivial)⟩, ⟨(zb1 HB)⟩⟩
     ·
      rw [if_neg c5] at H
      exact absurd H (by simp)
    ·
     rw [if_neg c4] at H
     exact absurd H (by simp)
   ·
    rw [if_neg c3] at H
    have c3b0 : decide (x13_1 < (l0.length : Int)) = false := decide_eq_false c3
    clear c3
    replace H := Option.bind_eq_some_iff.mp H
    obtain ⟨⟨t303, t304⟩, A170, H⟩ := H
    replace H : (some (t303, t304)) = some (r1, r2) := H
    have A17 := Aside0.mk A170
    clear A170
    simp only [Option.some.injEq, Prod.mk.injEq] at H
    obtain ⟨rfl, rfl⟩ := H
    obtain ⟨Ao18, co18, eo18⟩ := Kd.R_slice HO_6.out
    subst eo18
    go_wp2_with (first | ((with_reducible refine gate_callee (f := 59) rfl ?_); refine goesL_ (some 50) rfl rfl Try.func59 (by kernel_rfl) rfl #[.slice Ao18 x6_1.length co18] rfl zq6 ?_; (with_reducible refine (spec_poSum.calls k1 _ _ x6_1 t303 t304 _ ?side1 ?side2 A17.out).mono ?_); (case side1 => repeat (first | exact (Kd.R_reads' HO_6.out).2.2 | (with_reducible refine Kd.C_alloc ?_ _) | (with_reducible refine Kd.C_drewN ?_ _) | (with_reducible refine Kd.C_drew ?_))); (case side2 => exact (Kd.R_reads' HO_6.out).2.1); rintro e w19 ⟨v305, rfl, ho0, hb⟩; refine ⟨_, rfl, ?_⟩; have HO306 := Aside0.mk (Kd.R_lower (Kd.R_new' ho0 (Kd.R_lt (zq3 HO_6))) (below_size (zb0 HB))); replace HO_6 := Aside0.mk (Kd.R_elder' (zq3 HO_6) (Kd.R_base ho0) hb); replace HB := Aside0.mk (below_step (zb0 HB) hb); (try clear hb); (try clear hb2); (try clear hk); (try clear hi); (try clear ho0)))
    go_ret2
    exact ⟨_, by first | rfl | (simp [errW_none, errW_some] <;> rfl) | (simp [*, errW_none, errW_some] <;> rfl), by (with_reducible repeat (first | apply Kd.R_alloc | apply Kd.R_drewN | apply Kd.R_drew)); exact Kd.R_mono HO306.out (fun _ hk => trivial), (zb0 HB)⟩
/-! ### spec_DrawAddPoly: function 17 -/
theorem z17_0 {P Q : Prop} (h : Aside0 (Q)) (f : Q → P := by intro h_; repeat (first | (with_reducible first | exact h_ | apply IsS67.alloc | apply IsS67.drewN | apply IsS67.drew | apply IsS67.set_1 | apply IsS67.set_2) | exact h_)) : P := f h.out
theorem z17_1 {w W0 W1 : World} {B : Nat} (h : Aside0 (Below B w W0)) (f : Below B w W0 → Below B w W1 := by intro h_; repeat (first | (with_reducible first | exact h_ | apply below_alloc | apply pw_below_drewN | apply below_drew1 | refine below_set ?_ (IsS67.ge (Aside0.out (by assumption)))) | exact h_)) : Below B w W1 := f h.out
set_option maxHeartbeats 8000000 in
set_option maxRecDepth 100000 in
theorem spec_DrawAddPoly.calls (k : Nat) (A0 : Option Addr) (c0 : Nat) (l0 : List Int) (r1 : List (S51)) (r2 : List (S51)) (w : World) (hr0 : Kd.C (Kd.int .u8) w A0 l0.length l0) (hc0 : l0.length ≤ c0) (h : spec_DrawAddPoly.f k l0 = some (r1, r2)) :
  Calls Try.prog 17 #[.slice A0 l0.length c0] w fun e w' => ∃ v0_ v1_ : Value, e = .returned (.tuple #[v0_, v1_]) ∧ Kd.R k51 51 w' w.heap.size (fun k_ => some k_ ≠ (v1_ : Value).ownBlock) v0_ r1 ∧ Kd.R k51 51 w' w.heap.size (fun k_ => some k_ ≠ (v0_ : Value).ownBlock) v1_ r2 ∧ Below w.heap.size w w' := by
 have hu67 := Try.underlying67
 have hu51 := Try.underlying51
 have HR0 := Aside0.mk hr0
 have HC0 := Aside0.mk hc0
 clear hr0 hc0
 have HB := Aside0.mk (Below.refl w.heap.size w)
 have H : ((spec_l1Cur_pick.f l0 0 0 3).bind fun bt315 => ((spec_l1Cur_anyPoly.f k l0 bt315.2.1 bt315.2.2 (wrap64 (1 + bt315.1))).bind fun bt318 => ((spec_l1Cur_one.f l0 bt318.2.1 bt318.2.2 8).bind fun bt323 => (if bt323.1 = true then ((spec_poGood.f k bt318.1).bind fun t326 => (spec_DrawAddPoly.j0 k (wrap64 (1 + bt315.1)) bt318.1 t326 l0 bt323.2.1 bt323.2.2)) else (spec_DrawAddPoly.j0 k (wrap64 (1 + bt315.1)) bt318.1 false l0 bt323.2.1 bt323.2.2))))) = some (r1, r2) := h
 clear h
 replace H := Option.bind_eq_some_iff.mp H
 obtain ⟨⟨t315, t316, t317⟩, A20, H⟩ := H
 replace H : ((spec_l1Cur_anyPoly.f k l0 t316 t317 (wrap64 (1 + t315))).bind fun bt318 => ((spec_l1Cur_one.f l0 bt318.2.1 bt318.2.2 8).bind fun bt323 => (if bt323.1 = true then ((spec_poGood.f k bt318.1).bind fun t326 => (spec_DrawAddPoly.j0 k (wrap64 (1 + t315)) bt318.1 t326 l0 bt323.2.1 bt323.2.2)) else (spec_DrawAddPoly.j0 k (wrap64 (1 + t315)) bt318.1 false l0 bt323.2.1 bt323.2.2)))) = some (r1, r2) := H
 have A2 := Aside0.mk A20
 clear A20
 replace H := Option.bind_eq_some_iff.mp H
 obtain ⟨⟨t318, t321, t322⟩, A30, H⟩ := H
 replace H : ((spec_l1Cur_one.f l0 t321 t322 8).bind fun bt323 => (if bt323.1 = true then ((spec_poGood.f k t318).bind fun t326 => (spec_DrawAddPoly.j0 k (wrap64 (1 + t315)) t318 t326 l0 bt323.2.1 bt323.2.2)) else (spec_DrawAddPoly.j0 k (wrap64 (1 + t315)) t318 false l0 bt323.2.1 bt323.2.2))) = some (r1, r2) := H
 have A3 := Aside0.mk A30
 clear A30
 have HC4 := Aside0.mk H
 clear H
 go_enter Try.func17, Try.ntmps17
 go_upto_region 4 with (first | ((with_reducible refine gate_dst (N := 11) rfl ?_); refine zbe (N := 11) (cs := #[.slice A0 l0.length c0, .int .i64 0, .int .u64 0]) (t := 67) ?_; intro gb314 hg w5 hbox hb; have BK314 := Aside0.mk (hbox); have GW314 := Aside0.mk (zge (zb0 HB) hg); have GE314 := GW314; replace HB := Aside0.mk (below_step (zb0 HB) hb); clear hb hbox hg; have HI314 : Aside0 (IsS67 w w5 gb314 l0 0 0) := ⟨⟨A0, c0, (zq1 BK314), GE314.out, HR0.out⟩⟩) | ((with_reducible refine gate_callee (f := 50) rfl ?_); refine goesL_ (some 13) rfl rfl Try.func50 (by kernel_rfl) rfl #[.pointer (some ⟨gb314, 0, none⟩), .int .i64 3] rfl zq6 ?_; (with_reducible refine (spec_l1Cur_pick.calls gb314 l0 0 0 3 t315 t316 t317 w _ ?side1 ?side2 A2.out).mono ?_); (case side1 => exact z17_0 HI314); (case side2 => exact z17_1 HB); rintro e w6 ⟨rfl, hi, hb, hk⟩; refine ⟨_, rfl, ?_⟩; replace HB := Aside0.mk (hb); replace HI314 := Aside0.mk (hi); (try clear hb); (try clear hb2); (try clear hk); (try clear hi)) | ((with_reducible refine gate_callee (f := 51) rfl ?_); refine goesL_ (some 17) rfl rfl Try.func51 (by kernel_rfl) rfl #[.pointer (some ⟨gb314, 0, none⟩), .int .i64 (wrap64 (1 + t315))] rfl zq6 ?_; (with_reducible refine (spec_l1Cur_anyPoly.calls k gb314 l0 t316 t317 (wrap64 (1 + t315)) t318 t321 t322 w _ ?side1 ?side2 A3.out).mono ?_); (case side1 => exact z17_0 HI314); (case side2 => exact z17_1 HB); rintro e w7 ⟨v319, rfl, ho0, hi, hb, hk⟩; refine ⟨_, rfl, ?_⟩; have HO320 := Aside0.mk (Kd.R_lower ho0 (below_size (z17_1 HB))); replace HB := Aside0.mk (hb); replace HI314 := Aside0.mk (hi); (try clear hb); (try clear hb2); (try clear hk); (try clear hi); (try clear ho0)))
 (try simp only [Act.put, List.setIfInBounds_toArray, List.set_cons_zero, List.set_cons_succ])
 go_cut [23] (fun v23 wc => ∃ (kq : Nat) (x23_3 : Bool) (x315001_3 : Int) (x315002_3 : Int), v23 = .bool x23_3 ∧ Aside0 (spec_DrawAddPoly.j0 kq (wrap64 (1 + t315)) t318 x23_3 l0 x315001_3 x315002_3 = some (r1, r2)) ∧ Aside0 (kq ≤ k) ∧ Aside0 (Kd.R k51 51 wc w.heap.size (fun _ => True) v319 t318) ∧ Aside0 (IsS67 w wc gb314 l0 x315001_3 x315002_3) ∧ Aside0 (Below w.heap.size w wc))
 case first =>
  have H := HC4.out
  clear HC4
  replace H := Option.bind_eq_some_iff.mp H
  obtain ⟨⟨t323, t324, t325⟩, A80, H⟩ := H
  replace H : (if t323 = true then ((spec_poGood.f k t318).bind fun t326 => (spec_DrawAddPoly.j0 k (wrap64 (1 + t315)) t318 t326 l0 t324 t325)) else (spec_DrawAddPoly.j0 k (wrap64 (1 + t315)) t318 false l0 t324 t325)) = some (r1, r2) := H
  have A8 := Aside0.mk A80
  clear A80
  by_cases c9 : t323 = true
  ·
   subst c9
   have H1 : ((spec_poGood.f k t318).bind fun t326 => (spec_DrawAddPoly.j0 k (wrap64 (1 + t315)) t318 t326 l0 t324 t325)) = some (r1, r2) := by rw [if_pos rfl] at H; exact H
   clear H
   have H := H1
   clear H1
   replace H := Option.bind_eq_some_iff.mp H
   obtain ⟨t326, A100, H⟩ := H
   replace H : (spec_DrawAddPoly.j0 k (wrap64 (1 + t315)) t318 t326 l0 t324 t325) = some (r1, r2) := H
   have A10 := Aside0.mk A100
   clear A100
   have H' := Aside0.mk H
   clear H
   go_wp2_with (first | ((with_reducible refine gate_callee (f := 52) rfl ?_); refine goesL_ (some 19) rfl rfl Try.func52 (by kernel_rfl) rfl #[.pointer (some ⟨gb314, 0, none⟩), .int .i64 8] rfl zq6 ?_; (with_reducible refine (spec_l1Cur_one.calls gb314 l0 t321 t322 8 true t324 t325 w _ ?side1 ?side2 A8.out).mono ?_); (case side1 => exact z17_0 HI314); (case side2 => exact z17_1 HB); rintro e w11 ⟨rfl, hi, hb, hk⟩; refine ⟨_, rfl, ?_⟩; replace HO320 := Aside0.mk (Kd.R_mono (Kd.R_keep (IsS67.apart (show IsS67 w _ gb314 l0 t321 t322 from (z17_0 HI314)) (zq3 HO320) (by decide)) hk (fun _ h => h.2)) (fun _ h => h.1)); replace HB := Aside0.mk (hb); replace HI314 := Aside0.mk (hi); (try clear hb); (try clear hb2); (try clear hk); (try clear hi); obtain ⟨Ao12, co12, eo12⟩ := Kd.R_slice HO320.out; subst eo12) | (go_at_call 33; (with_reducible refine (spec_poGood.calls k _ _ t318 t326 _ ?side1 ?side2 A10.out).mono ?_); (case side1 => repeat (first | exact (Kd.R_reads' HO320.out).2.2 | (with_reducible refine Kd.C_alloc ?_ _) | (with_reducible refine Kd.C_drewN ?_ _) | (with_reducible refine Kd.C_drew ?_))); (case side2 => exact (Kd.R_reads' HO320.out).2.1); rintro e w13 ⟨rfl, hb⟩; replace HO320 := Aside0.mk (Kd.R_below (zq3 HO320) hb); replace HI314 := Aside0.mk (IsS67.below (z17_0 HI314) hb); replace HB := Aside0.mk (below_step (z17_1 HB) hb); (try clear hb); (try clear hb2); (try clear hk); (try clear hi)))
   go_meet
   case rel => exact ⟨_, (t326), (t324), (t325), (by first | rfl | (simp; done) | (simp [*]; done)), H', ⟨by first | omega | exact Nat.le_refl _⟩, ⟨by (with_reducible repeat (first | apply Kd.R_alloc | apply Kd.R_drewN | apply Kd.R_drew)); exact HO320.out⟩, ⟨(z17_0 HI314)⟩, ⟨(z17_1 HB)⟩⟩
  ·
   replace c9 := Bool.eq_false_iff.mpr c9
   subst c9
   have H1 : (spec_DrawAddPoly.j0 k (wrap64 (1 + t315)) t318 false l0 t324 t325) = some (r1, r2) := by rw [if_neg (show ¬ (false = true) by decide)] at H; exact H
   clear H
   have H := H1
   clear H1
   have H' := Aside0.mk H
   clear H
   go_wp2_with (first | ((with_reducible refine gate_callee (f := 52) rfl ?_); refine goesL_ (some 19) rfl rfl Try.func52 (by kernel_rfl) rfl #[.pointer (some ⟨gb314, 0, none⟩), .int .i64 8] rfl zq6 ?_; (with_reducible refine (spec_l1Cur_one.calls gb314 l0 t321 t322 8 false t324 t325 w _ ?side1 ?side2 A8.out).mono ?_); (case side1 => exact z17_0 HI314); (case side2 => exact z17_1 HB); rintro e w14 ⟨rfl, hi, hb, hk⟩; refine ⟨_, rfl, ?_⟩; replace HO320 := Aside0.mk (Kd.R_mono (Kd.R_keep (IsS67.apart (show IsS67 w _ gb314 l0 t321 t322 from (z17_0 HI314)) (zq3 HO320) (by decide)) hk (fun _ h => h.2)) (fun _ h => h.1)); replace HB := Aside0.mk (hb); replace HI314 := Aside0.mk (hi); (try clear hb); (try clear hb2); (try clear hk); (try clear hi)))
   go_meet
   case rel => exact ⟨_, (false), (t324), (t325), (by first | rfl | (simp; done) | (simp [*]; done)), H', ⟨by first | omega | exact Nat.le_refl _⟩, ⟨by (with_reducible repeat (first | apply Kd.R_alloc | apply Kd.R_drewN | apply Kd.R_drew)); exact HO320.out⟩, ⟨(z17_0 HI314)⟩, ⟨(z17_1 HB)⟩⟩
 case rest =>
  clear HC4
  try clear c1
  try clear p2
  try clear c5
  try clear p6
  try clear c9
  obtain ⟨kq, x23_3, x315001_3, x315002_3, rfl, HA, HJ3, HO_6, HI314, HB⟩ := hcut
  cases kq with
  | zero => exact absurd HA.out (by simp [spec_DrawAddPoly.j0])
  | succ kj3 =>
   have H := HA.out
   clear HA
   simp only [spec_DrawAddPoly.j0] at H
   by_cases c15 : x23_3 = true
   ·
    subst c15
    have H1 : ((spec_poMul.f kj3 t318 (([(⟨(-1), 0, 0, 0⟩ : S51)] : List (S51)))).bind fun bt330 => (some (t318, bt330.1))) = some (r1, r2) := by rw [if_pos rfl] at H; exact H
    clear H
    have H := H1
    clear H1
    obtain ⟨y327, hy327⟩ : ∃ y_ : List (S51), y_ = (([(⟨(-1), 0, 0, 0⟩ : S51)] : List (S51))) := ⟨_, rfl⟩
    replace H : ((spec_poMul.f kj3 t318 y327).bind fun bt330 => (some (t318, bt330.1))) = some (r1, r2) := by first | (rw [hy327]; with_reducible exact H) | (have H2_ := (Option.bind_some _ _).symm.trans H; rw [hy327]; with_reducible exact H2_) | (have H2_ := (Option.bind_some _ _).symm.trans H; with_reducible exact H2_) | with_reducible exact H | (rw [hy327]; exact H) | exact H
    have Ny327 := Aside0.mk hy327
    clear hy327
    replace H := Option.bind_eq_some_iff.mp H
    obtain ⟨⟨t330, t331⟩, A160, H⟩ := H
    replace H : (some (t318, t330)) = some (r1, r2) := H
    have A16 := Aside0.mk A160
    clear A160
    simp only [Option.some.injEq, Prod.mk.injEq] at H
    obtain ⟨rfl, rfl⟩ := H
    go_wp2_with (first | ((with_reducible refine gate_dst (N := 27) rfl ?_); refine Kd.R_lit k51 _ 51 ?hg (N := 27) ?hd (xs := ([(⟨(-1), 0, 0, 0⟩ : S51)] : List (S51))) (inner := [.int .i64 (-1), .int .i64 0, .int .i64 0, .int .i64 0]) (ok := fun _ => True) (okp := fun _ => True) ?hr ?hp (fun _ hk => hk) trivial (Below.refl _ _) (Nat.le_refl _) (by simp) ?_; (case hd => rfl); (case hg => rfl); (case hr => first | (go_simp; done) | (go_simp; rfl)); (case hp => exact (Reps.c4 (show Kd.M k51 _ _ _ (⟨(-1), 0, 0, 0⟩ : S51) [.int .i64 (-1), .int .i64 0, .int .i64 0, .int .i64 0] from (k51_mkM _ _ _ (⟨(-1), 0, 0, 0⟩ : S51) )) (Reps.none _ _))); intro v328 w17 ho18 hb hg_ hnew_; clear hg_ hnew_; (first | rw [← Ny327.out] at ho18 | (simp only [Int.reduceToNat] at ho18; rw [← Ny327.out] at ho18)); have HO329 := Aside0.mk (Kd.R_lower (Kd.R_new' ho18 (Kd.R_lt (zq3 HO_6))) (below_size (z17_1 HB))); replace HO_6 := Aside0.mk (Kd.R_elder' (zq3 HO_6) (Kd.R_base ho18) hb); replace HI314 := Aside0.mk (IsS67.below (z17_0 HI314) hb); replace HB := Aside0.mk (below_step (z17_1 HB) hb); clear hb ho18; obtain ⟨Ao19, co19, eo19⟩ := Kd.R_slice HO_6.out; subst eo19; obtain ⟨Ao20, co20, eo20⟩ := Kd.R_slice HO329.out; subst eo20) | ((with_reducible refine gate_callee (f := 53) rfl ?_); refine goesL_ (some 28) rfl rfl Try.func53 (by kernel_rfl) rfl #[.slice Ao19 t318.length co19, .slice Ao20 y327.length co20] rfl zq6 ?_; (with_reducible refine (spec_poMul.calls kj3 _ _ t318 _ _ y327 t330 t331 _ ?side1 ?side2 ?side3 ?side4 A16.out).mono ?_); (case side1 => repeat (first | exact (Kd.R_reads' HO_6.out).2.2 | (with_reducible refine Kd.C_alloc ?_ _) | (with_reducible refine Kd.C_drewN ?_ _) | (with_reducible refine Kd.C_drew ?_))); (case side2 => exact (Kd.R_reads' HO_6.out).2.1); (case side3 => repeat (first | exact (Kd.R_reads' HO329.out).2.2 | (with_reducible refine Kd.C_alloc ?_ _) | (with_reducible refine Kd.C_drewN ?_ _) | (with_reducible refine Kd.C_drew ?_))); (case side4 => exact (Kd.R_reads' HO329.out).2.1); rintro e w21 ⟨v332, rfl, ho0, hb⟩; refine ⟨_, rfl, ?_⟩; have HO333 := Aside0.mk (Kd.R_lower (Kd.R_new' (Kd.R_new' ho0 (Kd.R_lt (zq3 HO_6))) (Kd.R_lt (zq3 HO329))) (below_size (z17_1 HB))); replace HO_6 := Aside0.mk (Kd.R_elder' (zq3 HO_6) (Kd.R_base ho0) hb); replace HO329 := Aside0.mk (Kd.R_elder' (zq3 HO329) (Kd.R_base ho0) hb); replace HI314 := Aside0.mk (IsS67.below (z17_0 HI314) hb); replace HB := Aside0.mk (below_step (z17_1 HB) hb); (try clear hb); (try clear hb2); (try clear hk); (try clear hi); (try clear ho0)))
    go_ret2
    exact ⟨_, _, by first | rfl | (simp [errW_none, errW_some] <;> rfl) | (simp [*, errW_none, errW_some] <;> rfl), by (with_reducible repeat (first | apply Kd.R_alloc | apply Kd.R_drewN | apply Kd.R_drew)); exact Kd.R_mono HO_6.out (fun _ hk => hk.2), by (with_reducible repeat (first | apply Kd.R_alloc | apply Kd.R_drewN | apply Kd.R_drew)); exact Kd.R_mono HO333.out (fun _ hk => hk.1.2), (z17_1 HB)⟩
   ·
    replace c15 := Bool.eq_false_iff.mpr c15
    subst c15
    have H1 : ((spec_l1Cur_anyPoly.f kj3 l0 x315001_3 x315002_3 (wrap64 (1 + t315))).bind fun bt334 => (some (t318, bt334.1))) = some (r1, r2) := by rw [if_neg (show ¬ (false = true) by decide)] at H; exact H
    clear H
    have H := H1
    clear H1
    replace H := Option.bind_eq_some_iff.mp H
    obtain ⟨⟨t334, t337, t338⟩, A220, H⟩ := H
    replace H : (some (t318, t334)) = some (r1, r2) := H
    have A22 := Aside0.mk A220
    clear A220
    simp only [Option.some.injEq, Prod.mk.injEq] at H
    obtain ⟨rfl, rfl⟩ := H
    go_wp2_with (first | ((with_reducible refine gate_callee (f := 51) rfl ?_); refine goesL_ (some 36) rfl rfl Try.func51 (by kernel_rfl) rfl #[.pointer (some ⟨gb314, 0, none⟩), .int .i64 (wrap64 (1 + t315))] rfl zq6 ?_; (with_reducible refine (spec_l1Cur_anyPoly.calls kj3 gb314 l0 x315001_3 x315002_3 (wrap64 (1 + t315)) t334 t337 t338 w _ ?side1 ?side2 A22.out).mono ?_); (case side1 => exact z17_0 HI314); (case side2 => exact z17_1 HB); rintro e w23 ⟨v335, rfl, ho0, hi, hb, hk⟩; refine ⟨_, rfl, ?_⟩; have HO336 := Aside0.mk (Kd.R_lower (Kd.R_new' ho0 (Kd.R_lt (zq3 HO_6))) (below_size (z17_1 HB))); replace HO_6 := Aside0.mk (Kd.R_mono (Kd.R_told (Kd.R_oldK (IsS67.apart (show IsS67 w _ gb314 l0 x315001_3 x315002_3 from (z17_0 HI314)) (zq3 HO_6) (by decide)) hk) (Kd.R_base ho0)) (fun _ h_ => h_.1)); replace HB := Aside0.mk (hb); replace HI314 := Aside0.mk (hi); (try clear hb); (try clear hb2); (try clear hk); (try clear hi); (try clear ho0)))
    go_ret2
    exact ⟨_, _, by first | rfl | (simp [errW_none, errW_some] <;> rfl) | (simp [*, errW_none, errW_some] <;> rfl), by (with_reducible repeat (first | apply Kd.R_alloc | apply Kd.R_drewN | apply Kd.R_drew)); exact Kd.R_mono HO_6.out (fun _ hk => hk.2), by (with_reducible repeat (first | apply Kd.R_alloc | apply Kd.R_drewN | apply Kd.R_drew)); exact Kd.R_mono HO336.out (fun _ hk => hk.2), (z17_1 HB)⟩
/-! ### impl_isPoly: function 40 -/
def impl_isPoly.T4 : Bool × List (List Nat × List Nat) := (true, [([], []), ([0], [0]), ([1], [1]), ([2], [2]), ([3], [3]), ([4, 3], [3, 4]), ([5, 3, 3], [3, 5]), ([6, 3], [3, 6]), ([3, 7], [3, 7]), ([8, 6], [8]), ([9], [9]), ([10, 9, 9], [9, 10]), ([11, 9], [9, 11]), ([9, 12], [9, 12]), ([13, 11], [13]), ([14], [14]), ([15, 14], [14, 15]), ([16, 14, 14], [14, 16]), ([17], [17]), ([17], [17]), ([19, 17], [17, 19]), ([18, 20, 17], [17, 18, 20]), ([21, 17], [17, 21]), ([17], [17]), ([22, 23, 17, 17], [17, 22, 23]), ([24, 17], [17, 24]), ([17, 25, 14], [14, 17, 25]), ([14, 26], [14, 26])])
def impl_isPoly.B4 : List Nat := [0, 1, 3, 7, 15, 31, 63, 127, 255, 511, 1023, 2047, 4095, 8191, 16383, 32767, 65535, 131071, 262143, 262143, 786431, 2097151, 4194303, 262143, 16777215, 33554431, 67108863, 134217727]
theorem impl_isPoly.tab4 : rtab .any (opsOf Try.f40 4) = impl_isPoly.T4 := by kernel_rfl
theorem impl_isPoly.bits4 : waitsOk impl_isPoly.T4.2 impl_isPoly.B4 = true := by kernel_rfl
set_option maxHeartbeats 8000000 in
set_option maxRecDepth 100000 in
theorem impl_isPoly.calls (k : Nat) (A0 : Option Addr) (c0 : Nat) (l0 : List (S51)) (r : Bool) (w : World) (hr0 : Kd.C k51 w A0 l0.length l0) (hc0 : l0.length ≤ c0) (h : impl_isPoly.f k l0 = some r) :
  Calls Try.prog 40 #[.slice A0 l0.length c0] w fun e w' => e = .returned (.bool r) ∧ Below w.heap.size w w' := by
 have hu51 := Try.underlying51
 have HR0 := Aside0.mk hr0
 have HC0 := Aside0.mk hc0
 clear hr0 hc0
 have HB := Aside0.mk (Below.refl w.heap.size w)
 have H : (impl_isPoly.l0 k l0 l0 (l0.length : Int) 0) = some r := h
 clear h
 have H' := Aside0.mk H
 clear H
 go_enter Try.func40, Try.ntmps40
 go_wp2
 go_loopg [7] k (fun kq v7 w' => ∃ (x7_1 : Int), v7 = .int .i64 x7_1 ∧ Aside0 (impl_isPoly.l0 kq l0 l0 (l0.length : Int) x7_1 = some r) ∧ Aside0 (kq ≤ k) ∧ Aside0 (Below w.heap.size w w'))
 case atStart => exact ⟨(0), (by first | rfl | (simp; done) | (simp [*]; done)), H', ⟨Nat.le_refl _⟩, ⟨(zb0 HB)⟩⟩
 case round =>
  clear H'
  obtain ⟨x7_1, rfl, HA, HK1, HB⟩ := hrel
  cases gk with
  | zero => exact absurd HA.out (by simp [impl_isPoly.l0])
  | succ k1 =>
   have H := HA.out
   clear HA
   simp only [impl_isPoly.l0] at H
   by_cases c2 : x7_1 < (l0.length : Int)
   ·
    rw [if_pos c2] at H
    have c2b0 : decide (x7_1 < (l0.length : Int)) = true := decide_eq_true c2
    clear c2
    by_cases c3 : 0 ≤ x7_1
    ·
     rw [if_pos c3] at H
     have c3b0 : decide (0 ≤ x7_1) = true := decide_eq_true c3
     clear c3
     by_cases c4 : x7_1 < (l0.length : Int)
     ·
      rw [if_pos c4] at H
      have c4b0 : decide (x7_1 < (l0.length : Int)) = true := decide_eq_true c4
      clear c4
      by_cases c5 : ((rd_T51 l0 x7_1).f0) = 0
      ·
       rw [if_pos c5] at H
       have c5b0 : (((rd_T51 l0 x7_1).f0) == 0) = true := beq_iff_eq.mpr c5
       have c5b1 : (((rd_T51 l0 x7_1).f0) != 0) = false := bne_eq_false_iff_eq.mpr c5
       clear c5
       obtain rfl := Option.some.inj H
       have p357 : 0 ≤ (x7_1 : Int) := of_decide_eq_true (by first | (with_reducible assumption) | assumption)
       have q357 : x7_1 < (l0.length : Int) := of_decide_eq_true (by first | (with_reducible assumption) | assumption)
       obtain ⟨ad357, e357, hx357_0, hx357_1, hx357_2, hx357_3⟩ := at_T51 HR0.out x7_1 p357 q357
       cases e357
       replace hx357_0 := pw_cell_below HB.out hx357_0
       replace hx357_1 := pw_cell_below HB.out hx357_1
       replace hx357_2 := pw_cell_below HB.out hx357_2
       replace hx357_3 := pw_cell_below HB.out hx357_3
       replace p357 := eq_true p357
       replace q357 := eq_true q357
       try go_wp2_with (first | ((with_reducible refine gate_dst (N := 4) rfl ?_); refine zbe (N := 4) (cs := #[.int .i64 0, .int .i64 0, .int .i64 0, .int .i64 0]) (t := 51) ?_; intro gb358 hg w6 hbox hb; have BK358 := Aside0.mk (hbox); have GW358 := Aside0.mk (zge (zb0 HB) hg); have GE358 := GW358; replace HB := Aside0.mk (below_step (zb0 HB) hb); clear hb hbox hg; have hcz7_0 : w6.cell? ⟨gb358, 0, none⟩ = some (.int .i64 0) := zc BK358 0; have hcz7_1 : w6.cell? ⟨gb358, 1, none⟩ = some (.int .i64 0) := zc BK358 1; have hcz7_2 : w6.cell? ⟨gb358, 2, none⟩ = some (.int .i64 0) := zc BK358 2; have hcz7_3 : w6.cell? ⟨gb358, 3, none⟩ = some (.int .i64 0) := zc BK358 3; have hfz7_0 := blk_frozen BK358.out 0; have hfz7_1 := blk_frozen BK358.out 1; have hfz7_2 := blk_frozen BK358.out 2; have hfz7_3 := blk_frozen BK358.out 3))
       have n0_ : Aside0 (((((w6.setCell ⟨gb358, 0, none⟩ (.int .i64 ((rd_T51 l0 x7_1).f0))).setCell ⟨gb358, 1, none⟩ (.int .i64 ((rd_T51 l0 x7_1).f1))).setCell ⟨gb358, 2, none⟩ (.int .i64 ((rd_T51 l0 x7_1).f2))).setCell ⟨gb358, 3, none⟩ (.int .i64 ((rd_T51 l0 x7_1).f3))).heap[gb358]? = some (.cells #[.int .i64 ((rd_T51 l0 x7_1).f0), .int .i64 ((rd_T51 l0 x7_1).f1), .int .i64 ((rd_T51 l0 x7_1).f2), .int .i64 ((rd_T51 l0 x7_1).f3)] 51 (0, 0))) := ⟨by (with_reducible repeat (first | refine blk_drewN ?_ _ | refine blk_drew ?_ | refine blk_alloc ?_ _)); refine blk_put (cs := #[.int .i64 ((rd_T51 l0 x7_1).f0), .int .i64 ((rd_T51 l0 x7_1).f1), .int .i64 ((rd_T51 l0 x7_1).f2), .int .i64 0]) ?_ 3 _ rfl; (with_reducible repeat (first | refine blk_drewN ?_ _ | refine blk_drew ?_ | refine blk_alloc ?_ _)); refine blk_put (cs := #[.int .i64 ((rd_T51 l0 x7_1).f0), .int .i64 ((rd_T51 l0 x7_1).f1), .int .i64 0, .int .i64 0]) ?_ 2 _ rfl; (with_reducible repeat (first | refine blk_drewN ?_ _ | refine blk_drew ?_ | refine blk_alloc ?_ _)); refine blk_put (cs := #[.int .i64 ((rd_T51 l0 x7_1).f0), .int .i64 0, .int .i64 0, .int .i64 0]) ?_ 1 _ rfl; (with_reducible repeat (first | refine blk_drewN ?_ _ | refine blk_drew ?_ | refine blk_alloc ?_ _)); refine blk_put (cs := #[.int .i64 0, .int .i64 0, .int .i64 0, .int .i64 0]) ?_ 0 _ rfl; (with_reducible repeat (first | refine blk_drewN ?_ _ | refine blk_drew ?_ | refine blk_alloc ?_ _)); exact BK358.out⟩
       have n1_ : Aside0 (Below w.heap.size w ((((w6.setCell ⟨gb358, 0, none⟩ (.int .i64 ((rd_T51 l0 x7_1).f0))).setCell ⟨gb358, 1, none⟩ (.int .i64 ((rd_T51 l0 x7_1).f1))).setCell ⟨gb358, 2, none⟩ (.int .i64 ((rd_T51 l0 x7_1).f2))).setCell ⟨gb358, 3, none⟩ (.int .i64 ((rd_T51 l0 x7_1).f3)))) := ⟨(zb1 HB)⟩
       (try clear BK358)
       (try clear HB)
       generalize ((((w6.setCell ⟨gb358, 0, none⟩ (.int .i64 ((rd_T51 l0 x7_1).f0))).setCell ⟨gb358, 1, none⟩ (.int .i64 ((rd_T51 l0 x7_1).f1))).setCell ⟨gb358, 2, none⟩ (.int .i64 ((rd_T51 l0 x7_1).f2))).setCell ⟨gb358, 3, none⟩ (.int .i64 ((rd_T51 l0 x7_1).f3))) = w8 at n0_ n1_ ⊢
       have BK358 := n0_; have HB := n1_
       clear n0_ n1_
       replace BK358 := Aside0.mk (blk_drew BK358.out); replace HB := Aside0.mk (below_drew1 HB.out)
       refine start_ (n := 28) (S := fun w' => w'.cell? ⟨gb358, 0, none⟩ = some (.int .i64 ((rd_T51 l0 x7_1).f0)) ∧ w'.cell? ⟨gb358, 1, none⟩ = some (.int .i64 ((rd_T51 l0 x7_1).f1)) ∧ w'.cell? ⟨gb358, 2, none⟩ = some (.int .i64 ((rd_T51 l0 x7_1).f2)) ∧ w'.cell? ⟨gb358, 3, none⟩ = some (.int .i64 ((rd_T51 l0 x7_1).f3))) (ds := []) (bn 28 0) (by kernel_rfl) rfl rfl ⟨zc BK358 0, zc BK358 1, zc BK358 2, zc BK358 3⟩ (fun hHeld => ?_); refine with_tabW impl_isPoly.tab4 impl_isPoly.bits4 (fun HT_ HW_ => ?_)
       generalize w8.drew = w9 at BK358 HB hHeld ⊢
       refine zp (i := 0) (N := some 12) (bn 28 1) (any_of HT_.out (by kernel_rfl)) ?_
       refine zk (i := 1) (N := some 13) (bn 28 3) (take_ofW HT_.out HW_.out (by kernel_rfl)) hHeld ?_
       refine zp (i := 2) (N := some 14) (bn 28 7) (any_of HT_.out (by kernel_rfl)) ?_
       refine zp (i := 3) (N := some 15) (bn 28 15) (any_of HT_.out (by kernel_rfl)) ?_
       refine zu (i := 4) (N := some 16) (bn 28 31) (any_of HT_.out (by kernel_rfl)) ?_
       refine zu (i := 5) (N := some 17) (bn 28 63) (any_of HT_.out (by kernel_rfl)) ?_
       refine zu (i := 6) (N := some 18) (bn 28 127) (any_of HT_.out (by kernel_rfl)) ?_
       refine zu (i := 7) (N := some 19) (bn 28 255) (any_of HT_.out (by kernel_rfl)) ?_
       refine zp (i := 8) (N := some 20) (bn 28 511) (any_of HT_.out (by kernel_rfl)) ?_
       refine zp (i := 9) (N := some 21) (bn 28 1023) (any_of HT_.out (by kernel_rfl)) ?_
       refine zu (i := 10) (N := some 22) (bn 28 2047) (any_of HT_.out (by kernel_rfl)) ?_
       refine zu (i := 11) (N := some 23) (bn 28 4095) (any_of HT_.out (by kernel_rfl)) ?_
       refine zu (i := 12) (N := some 24) (bn 28 8191) (any_of HT_.out (by kernel_rfl)) ?_
       refine zp (i := 13) (N := some 25) (bn 28 16383) (any_of HT_.out (by kernel_rfl)) ?_
       refine zp (i := 14) (N := some 26) (bn 28 32767) (any_of HT_.out (by kernel_rfl)) ?_
       refine zu (i := 15) (N := some 27) (bn 28 65535) (any_of HT_.out (by kernel_rfl)) ?_
       refine zu (i := 16) (N := some 28) (bn 28 131071) (any_of HT_.out (by kernel_rfl)) ?_
       refine zu (i := 17) (N := some 29) (bn 28 262143) (any_of HT_.out (by kernel_rfl)) ?_
       refine zu (i := 18) (N := some 30) (bn 28 524287) (any_of HT_.out (by kernel_rfl)) ?_
       refine zu (i := 19) (N := some 31) (bn 28 1048575) (any_of HT_.out (by kernel_rfl)) ?_
       refine zu (i := 20) (N := some 32) (bn 28 2097151) (any_of HT_.out (by kernel_rfl)) ?_
       refine zu (i := 21) (N := some 33) (bn 28 4194303) (any_of HT_.out (by kernel_rfl)) ?_
       refine zu (i := 22) (N := some 34) (bn 28 8388607) (any_of HT_.out (by kernel_rfl)) ?_
       refine zu (i := 23) (N := some 35) (bn 28 16777215) (any_of HT_.out (by kernel_rfl)) ?_
       refine zu (i := 24) (N := some 36) (bn 28 33554431) (any_of HT_.out (by kernel_rfl)) ?_
       refine zu (i := 25) (N := some 37) (bn 28 67108863) (any_of HT_.out (by kernel_rfl)) ?_
       refine zu (i := 26) (N := some 38) (bn 28 134217727) (any_of HT_.out (by kernel_rfl)) ?_
       refine zp (i := 27) (N := some 39) (bn 28 268435455) (any_of HT_.out (by kernel_rfl)) ?_
       refine done_ (done_of HT_.out (by kernel_rfl)) ?_
       try go_wp2
       go_ret
       exact ⟨by first | rfl | (simp [errW_none, errW_some] <;> rfl) | (simp [*, errW_none, errW_some] <;> rfl), (zb1 HB)⟩
      ·
       rw [if_neg c5] at H
       have c5b0 : (((rd_T51 l0 x7_1).f0) == 0) = false := beq_eq_false_iff_ne.mpr c5
       have c5b1 : (((rd_T51 l0 x7_1).f0) != 0) = true := bne_iff_ne.mpr c5
       replace H := Option.bind_eq_some_iff.mp H
       obtain ⟨t359, A100, H⟩ := H
       replace H : (if t359 = true then ((impl_hasDegree.f ((rd_T51 l0 x7_1).f0) ((rd_T51 l0 x7_1).f1) ((rd_T51 l0 x7_1).f2) ((rd_T51 l0 x7_1).f3)).bind fun t360 => (if t360 = true then (if x7_1 > 0 then (if 0 ≤ (wrap64 (x7_1 - 1)) then (if (wrap64 (x7_1 - 1)) < (l0.length : Int) then ((impl_compareTerms.f k1 ((rd_T51 l0 (wrap64 (x7_1 - 1))).f0) ((rd_T51 l0 (wrap64 (x7_1 - 1))).f1) ((rd_T51 l0 (wrap64 (x7_1 - 1))).f2) ((rd_T51 l0 (wrap64 (x7_1 - 1))).f3) ((rd_T51 l0 x7_1).f0) ((rd_T51 l0 x7_1).f1) ((rd_T51 l0 x7_1).f2) ((rd_T51 l0 x7_1).f3)).bind fun t362 => (if t362 ≥ 0 then (some false) else (impl_isPoly.l0 k1 l0 l0 (l0.length : Int) (wrap64 (x7_1 + 1))))) else (none)) else (none)) else (impl_isPoly.l0 k1 l0 l0 (l0.length : Int) (wrap64 (x7_1 + 1)))) else (some false))) else (some false)) = some r := H
       have A10 := Aside0.mk A100
       clear A100
       by_cases c11 : t359 = true
       ·
        subst c11
        have H1 : ((impl_hasDegree.f ((rd_T51 l0 x7_1).f0) ((rd_T51 l0 x7_1).f1) ((rd_T51 l0 x7_1).f2) ((rd_T51 l0 x7_1).f3)).bind fun t360 => (if t360 = true then (if x7_1 > 0 then (if 0 ≤ (wrap64 (x7_1 - 1)) then (if (wrap64 (x7_1 - 1)) < (l0.length : Int) then ((impl_compareTerms.f k1 ((rd_T51 l0 (wrap64 (x7_1 - 1))).f0) ((rd_T51 l0 (wrap64 (x7_1 - 1))).f1) ((rd_T51 l0 (wrap64 (x7_1 - 1))).f2) ((rd_T51 l0 (wrap64 (x7_1 - 1))).f3) ((rd_T51 l0 x7_1).f0) ((rd_T51 l0 x7_1).f1) ((rd_T51 l0 x7_1).f2) ((rd_T51 l0 x7_1).f3)).bind fun t362 => (if t362 ≥ 0 then (some false) else (impl_isPoly.l0 k1 l0 l0 (l0.length : Int) (wrap64 (x7_1 + 1))))) else (none)) else (none)) else (impl_isPoly.l0 k1 l0 l0 (l0.length : Int) (wrap64 (x7_1 + 1)))) else (some false))) = some r := by rw [if_pos rfl] at H; exact H
        clear H
        have H := H1
        clear H1
        replace H := Option.bind_eq_some_iff.mp H
        obtain ⟨t360, A120, H⟩ := H
        replace H : (if t360 = true then (if x7_1 > 0 then (if 0 ≤ (wrap64 (x7_1 - 1)) then (if (wrap64 (x7_1 - 1)) < (l0.length : Int) then ((impl_compareTerms.f k1 ((rd_T51 l0 (wrap64 (x7_1 - 1))).f0) ((rd_T51 l0 (wrap64 (x7_1 - 1))).f1) ((rd_T51 l0 (wrap64 (x7_1 - 1))).f2) ((rd_T51 l0 (wrap64 (x7_1 - 1))).f3) ((rd_T51 l0 x7_1).f0) ((rd_T51 l0 x7_1).f1) ((rd_T51 l0 x7_1).f2) ((rd_T51 l0 x7_1).f3)).bind fun t362 => (if t362 ≥ 0 then (some false) else (impl_isPoly.l0 k1 l0 l0 (l0.length : Int) (wrap64 (x7_1 + 1))))) else (none)) else (none)) else (impl_isPoly.l0 k1 l0 l0 (l0.length : Int) (wrap64 (x7_1 + 1)))) else (some false)) = some r := H
        have A12 := Aside0.mk A120
        clear A120
        by_cases c13 : t360 = true
        ·
         subst c13
         have H1 : (if x7_1 > 0 then (if 0 ≤ (wrap64 (x7_1 - 1)) then (if (wrap64 (x7_1 - 1)) < (l0.length : Int) then ((impl_compareTerms.f k1 ((rd_T51 l0 (wrap64 (x7_1 - 1))).f0) ((rd_T51 l0 (wrap64 (x7_1 - 1))).f1) ((rd_T51 l0 (wrap64 (x7_1 - 1))).f2) ((rd_T51 l0 (wrap64 (x7_1 - 1))).f3) ((rd_T51 l0 x7_1).f0) ((rd_T51 l0 x7_1).f1) ((rd_T51 l0 x7_1).f2) ((rd_T51 l0 x7_1).f3)).bind fun t362 => (if t362 ≥ 0 then (some false) else (impl_isPoly.l0 k1 l0 l0 (l0.length : Int) (wrap64 (x7_1 + 1))))) else (none)) else (none)) else (impl_isPoly.l0 k1 l0 l0 (l0.length : Int) (wrap64 (x7_1 + 1)))) = some r := by rw [if_pos rfl] at H; exact H
         clear H
         have H := H1
         clear H1
         by_cases c14 : x7_1 > 0
         ·
          rw [if_pos c14] at H
          have c14b0 : decide (0 < x7_1) = true := decide_eq_true c14
          clear c14
          obtain ⟨ji15, hji15⟩ : ∃ j_ : Int, (wrap64 (x7_1 - 1)) = j_ := ⟨_, rfl⟩
          replace H : (if 0 ≤ (ji15) then (if (ji15) < (l0.length : Int) then ((impl_compareTerms.f k1 ((rd_T51 l0 (ji15)).f0) ((rd_T51 l0 (ji15)).f1) ((rd_T51 l0 (ji15)).f2) ((rd_T51 l0 (ji15)).f3) ((rd_T51 l0 x7_1).f0) ((rd_T51 l0 x7_1).f1) ((rd_T51 l0 x7_1).f2) ((rd_T51 l0 x7_1).f3)).bind fun t362 => (if t362 ≥ 0 then (some false) else (impl_isPoly.l0 k1 l0 l0 (l0.length : Int) (wrap64 (x7_1 + 1))))) else (none)) else (none)) = some r := by first | (rw [hji15] at H; exact H) | (simp only [hji15] at H ⊢; exact H)
          (try rw [hji15] at A10)
          (try rw [hji15] at A12)
          have hji15w : (IntKind.i64.wrap (x7_1 - 1)) = ji15 := (i64_w _).trans hji15
          by_cases c16 : 0 ≤ (ji15)
          ·
           rw [if_pos c16] at H
           have c16b0 : decide (0 ≤ (ji15)) = true := decide_eq_true c16
           clear c16
           by_cases c17 : (ji15) < (l0.length : Int)
           ·
            rw [if_pos c17] at H
            have c17b0 : decide ((ji15) < (l0.length : Int)) = true := decide_eq_true c17
            clear c17
            replace H := Option.bind_eq_some_iff.mp H
            obtain ⟨t362, A180, H⟩ := H
            replace H : (if t362 ≥ 0 then (some false) else (impl_isPoly.l0 k1 l0 l0 (l0.length : Int) (wrap64 (x7_1 + 1)))) = some r := H
            have A18 := Aside0.mk A180
            clear A180
            by_cases c19 : t362 ≥ 0
            ·
             rw [if_pos c19] at H
             have c19b0 : decide (0 ≤ t362) = true := decide_eq_true c19
             clear c19
             obtain rfl := Option.some.inj H
             have p357 : 0 ≤ (x7_1 : Int) := of_decide_eq_true (by first | (with_reducible assumption) | assumption)
             have q357 : x7_1 < (l0.length : Int) := of_decide_eq_true (by first | (with_reducible assumption) | assumption)
             obtain ⟨ad357, e357, hx357_0, hx357_1, hx357_2, hx357_3⟩ := at_T51 HR0.out x7_1 p357 q357
             cases e357
             replace hx357_0 := pw_cell_below HB.out hx357_0
             replace hx357_1 := pw_cell_below HB.out hx357_1
             replace hx357_2 := pw_cell_below HB.out hx357_2
             replace hx357_3 := pw_cell_below HB.out hx357_3
             replace p357 := eq_true p357
             replace q357 := eq_true q357
             try go_wp2_with (first | ((with_reducible refine gate_dst (N := 4) rfl ?_); refine zbe (N := 4) (cs := #[.int .i64 0, .int .i64 0, .int .i64 0, .int .i64 0]) (t := 51) ?_; intro gb358 hg w20 hbox hb; have BK358 := Aside0.mk (hbox); have GW358 := Aside0.mk (zge (zb0 HB) hg); have GE358 := GW358; replace HB := Aside0.mk (below_step (zb0 HB) hb); clear hb hbox hg; have hcz21_0 : w20.cell? ⟨gb358, 0, none⟩ = some (.int .i64 0) := zc BK358 0; have hcz21_1 : w20.cell? ⟨gb358, 1, none⟩ = some (.int .i64 0) := zc BK358 1; have hcz21_2 : w20.cell? ⟨gb358, 2, none⟩ = some (.int .i64 0) := zc BK358 2; have hcz21_3 : w20.cell? ⟨gb358, 3, none⟩ = some (.int .i64 0) := zc BK358 3; have hfz21_0 := blk_frozen BK358.out 0; have hfz21_1 := blk_frozen BK358.out 1; have hfz21_2 := blk_frozen BK358.out 2; have hfz21_3 := blk_frozen BK358.out 3))
             have n0_ : Aside0 (((((w20.setCell ⟨gb358, 0, none⟩ (.int .i64 ((rd_T51 l0 x7_1).f0))).setCell ⟨gb358, 1, none⟩ (.int .i64 ((rd_T51 l0 x7_1).f1))).setCell ⟨gb358, 2, none⟩ (.int .i64 ((rd_T51 l0 x7_1).f2))).setCell ⟨gb358, 3, none⟩ (.int .i64 ((rd_T51 l0 x7_1).f3))).heap[gb358]? = some (.cells #[.int .i64 ((rd_T51 l0 x7_1).f0), .int .i64 ((rd_T51 l0 x7_1).f1), .int .i64 ((rd_T51 l0 x7_1).f2), .int .i64 ((rd_T51 l0 x7_1).f3)] 51 (0, 0))) := ⟨by (with_reducible repeat (first | refine blk_drewN ?_ _ | refine blk_drew ?_ | refine blk_alloc ?_ _)); refine blk_put (cs := #[.int .i64 ((rd_T51 l0 x7_1).f0), .int .i64 ((rd_T51 l0 x7_1).f1), .int .i64 ((rd_T51 l0 x7_1).f2), .int .i64 0]) ?_ 3 _ rfl; (with_reducible repeat (first | refine blk_drewN ?_ _ | refine blk_drew ?_ | refine blk_alloc ?_ _)); refine blk_put (cs := #[.int .i64 ((rd_T51 l0 x7_1).f0), .int .i64 ((rd_T51 l0 x7_1).f1), .int .i64 0, .int .i64 0]) ?_ 2 _ rfl; (with_reducible repeat (first | refine blk_drewN ?_ _ | refine blk_drew ?_ | refine blk_alloc ?_ _)); refine blk_put (cs := #[.int .i64 ((rd_T51 l0 x7_1).f0), .int .i64 0, .int .i64 0, .int .i64 0]) ?_ 1 _ rfl; (with_reducible repeat (first | refine blk_drewN ?_ _ | refine blk_drew ?_ | refine blk_alloc ?_ _)); refine blk_put (cs := #[.int .i64 0, .int .i64 0, .int .i64 0, .int .i64 0]) ?_ 0 _ rfl; (with_reducible repeat (first | refine blk_drewN ?_ _ | refine blk_drew ?_ | refine blk_alloc ?_ _)); exact BK358.out⟩
             have n1_ : Aside0 (Below w.heap.size w ((((w20.setCell ⟨gb358, 0, none⟩ (.int .i64 ((rd_T51 l0 x7_1).f0))).setCell ⟨gb358, 1, none⟩ (.int .i64 ((rd_T51 l0 x7_1).f1))).setCell ⟨gb358, 2, none⟩ (.int .i64 ((rd_T51 l0 x7_1).f2))).setCell ⟨gb358, 3, none⟩ (.int .i64 ((rd_T51 l0 x7_1).f3)))) := ⟨(zb1 HB)⟩
             (try clear BK358)
             (try clear HB)
             generalize ((((w20.setCell ⟨gb358, 0, none⟩ (.int .i64 ((rd_T51 l0 x7_1).f0))).setCell ⟨gb358, 1, none⟩ (.int .i64 ((rd_T51 l0 x7_1).f1))).setCell ⟨gb358, 2, none⟩ (.int .i64 ((rd_T51 l0 x7_1).f2))).setCell ⟨gb358, 3, none⟩ (.int .i64 ((rd_T51 l0 x7_1).f3))) = w22 at n0_ n1_ ⊢
             have BK358 := n0_; have HB := n1_
             clear n0_ n1_
             replace BK358 := Aside0.mk (blk_drew BK358.out); replace HB := Aside0.mk (below_drew1 HB.out)
             have p361 : 0 ≤ ((ji15) : Int) := of_decide_eq_true (by first | (with_reducible assumption) | assumption)
             have q361 : (ji15) < (l0.length : Int) := of_decide_eq_true (by first | (with_reducible assumption) | assumption)
             obtain ⟨ad361, e361, hx361_0, hx361_1, hx361_2, hx361_3⟩ := at_T51 HR0.out (ji15) p361 q361
             have hw361_3 := hx361_3; have hw361_2 := hx361_2; have hw361_1 := hx361_1; have hw361_0 := hx361_0
             obtain rfl : ad357 = ad361 := (by injection e361)
             replace hx361_0 := pw_cell_below HB.out hx361_0
             replace hx361_1 := pw_cell_below HB.out hx361_1
             replace hx361_2 := pw_cell_below HB.out hx361_2
             replace hx361_3 := pw_cell_below HB.out hx361_3
             replace p361 := eq_true p361
             replace q361 := eq_true q361
             refine start_ (n := 28) (S := fun w' => w'.cell? ⟨gb358, 0, none⟩ = some (.int .i64 ((rd_T51 l0 x7_1).f0)) ∧ w'.cell? ⟨gb358, 1, none⟩ = some (.int .i64 ((rd_T51 l0 x7_1).f1)) ∧ w'.cell? ⟨gb358, 2, none⟩ = some (.int .i64 ((rd_T51 l0 x7_1).f2)) ∧ w'.cell? ⟨gb358, 3, none⟩ = some (.int .i64 ((rd_T51 l0 x7_1).f3)) ∧ w'.cell? (ad357.add (((ji15)).toNat * 4)) = some (.int .i64 ((rd_T51 l0 (ji15)).f0)) ∧ w'.cell? ⟨(ad357.add (((ji15)).toNat * 4)).block, (ad357.add (((ji15)).toNat * 4)).off + 1, none⟩ = some (.int .i64 ((rd_T51 l0 (ji15)).f1)) ∧ w'.cell? ⟨(ad357.add (((ji15)).toNat * 4)).block, (ad357.add (((ji15)).toNat * 4)).off + 2, none⟩ = some (.int .i64 ((rd_T51 l0 (ji15)).f2)) ∧ w'.cell? ⟨(ad357.add (((ji15)).toNat * 4)).block, (ad357.add (((ji15)).toNat * 4)).off + 3, none⟩ = some (.int .i64 ((rd_T51 l0 (ji15)).f3))) (ds := []) (bn 28 0) (by kernel_rfl) rfl rfl ⟨zc BK358 0, zc BK358 1, zc BK358 2, zc BK358 3, (pw_cell_below HB.out hw361_0), (pw_cell_below HB.out hw361_1), (pw_cell_below HB.out hw361_2), (pw_cell_below HB.out hw361_3)⟩ (fun hHeld => ?_); refine with_tabW impl_isPoly.tab4 impl_isPoly.bits4 (fun HT_ HW_ => ?_)
             generalize w22.drew = w23 at BK358 HB hx361_0 hx361_1 hx361_2 hx361_3 hHeld ⊢
             refine zp (i := 0) (N := some 12) (bn 28 1) (any_of HT_.out (by kernel_rfl)) ?_
             refine zk (i := 1) (N := some 13) (bn 28 3) (take_ofW HT_.out HW_.out (by kernel_rfl)) hHeld ?_
             refine zp (i := 2) (N := some 14) (bn 28 7) (any_of HT_.out (by kernel_rfl)) ?_
             refine zp (i := 3) (N := some 15) (bn 28 15) (any_of HT_.out (by kernel_rfl)) ?_
             refine zp (i := 4) (N := some 16) (bn 28 31) (any_of HT_.out (by kernel_rfl)) ?_
             refine zk (i := 5) (N := some 17) (bn 28 63) (take_ofW HT_.out HW_.out (by kernel_rfl)) hHeld ?_
             refine one_ (i := 6) (N := some 18) (bn 28 127) rfl rfl (one_of HT_.out (by kernel_rfl)) (by decide) (fun K hK => ?_)
             refine goes_ Try.func57 (by kernel_rfl) rfl #[.int .i64 ((rd_T51 l0 x7_1).f0), .int .i64 (-1000), .int .i64 1000] (by rfl) rfl rfl zq6 ?_
             with_reducible refine (impl_inside.calls ((rd_T51 l0 x7_1).f0) (-1000) 1000 true _ A10.out).mono ?_
             rintro e w' ⟨rfl, ⟨nd, rfl⟩⟩
             refine ⟨_, rfl, ?_⟩
             refine hK.out _ _ ⟨zc BK358 0, zc BK358 1, zc BK358 2, zc BK358 3, (pw_cell_below HB.out hw361_0), (pw_cell_below HB.out hw361_1), (pw_cell_below HB.out hw361_2), (pw_cell_below HB.out hw361_3)⟩ (fun hHeld => ?_)
             clear hK K
             refine norm_ (a' := ?_) ?_ ?_
             rotate_left
             ·
              show Act.put _ (some 18) _ = _
              simp only [Act.put, List.setIfInBounds_toArray, List.set_cons_zero, List.set_cons_succ, i64_w, i32_w]; rfl
             refine zp (i := 7) (N := some 19) (bn 28 255) (any_of HT_.out (by kernel_rfl)) ?_
             refine zp (i := 8) (N := some 20) (bn 28 511) (any_of HT_.out (by kernel_rfl)) ?_
             refine zp (i := 9) (N := some 21) (bn 28 1023) (any_of HT_.out (by kernel_rfl)) ?_
             refine zk (i := 10) (N := some 22) (bn 28 2047) (take_ofW HT_.out HW_.out (by kernel_rfl)) hHeld ?_
             refine one_ (i := 11) (N := some 23) (bn 28 4095) rfl rfl (one_of HT_.out (by kernel_rfl)) (by decide) (fun K hK => ?_)
             refine goes_ Try.func65 (by kernel_rfl) rfl #[.agg #[.int .i64 ((rd_T51 l0 x7_1).f0), .int .i64 ((rd_T51 l0 x7_1).f1), .int .i64 ((rd_T51 l0 x7_1).f2), .int .i64 ((rd_T51 l0 x7_1).f3)]] (by rfl) rfl rfl zq6 ?_
             with_reducible refine (impl_hasDegree.calls ((rd_T51 l0 x7_1).f0) ((rd_T51 l0 x7_1).f1) ((rd_T51 l0 x7_1).f2) ((rd_T51 l0 x7_1).f3) true _ A12.out).mono ?_
             rintro e w24 ⟨rfl, hb⟩
             refine ⟨_, rfl, ?_⟩
             replace BK358 := Aside0.mk (zbb BK358 hb); replace HB := Aside0.mk (below_step (zb1 HB) hb)
             (try clear hb)
             (try clear hb2)
             (try clear hk)
             (try clear hi)
             refine hK.out _ _ ⟨zc BK358 0, zc BK358 1, zc BK358 2, zc BK358 3, (pw_cell_below HB.out hw361_0), (pw_cell_below HB.out hw361_1), (pw_cell_below HB.out hw361_2), (pw_cell_below HB.out hw361_3)⟩ (fun hHeld => ?_)
             clear hK K
             refine norm_ (a' := ?_) ?_ ?_
             rotate_left
             ·
              show Act.put _ (some 23) _ = _
              simp only [Act.put, List.setIfInBounds_toArray, List.set_cons_zero, List.set_cons_succ, i64_w, i32_w]; rfl
             refine zp (i := 12) (N := some 24) (bn 28 8191) (any_of HT_.out (by kernel_rfl)) ?_
             refine zp (i := 13) (N := some 25) (bn 28 16383) (any_of HT_.out (by kernel_rfl)) ?_
             refine zp (i := 14) (N := some 26) (bn 28 32767) (any_of HT_.out (by kernel_rfl)) ?_
             refine zp (i := 15) (N := some 27) (bn 28 65535) (any_of HT_.out (by kernel_rfl)) ?_
             refine zp (i := 16) (N := some 28) (bn 28 131071) (any_of HT_.out (by kernel_rfl)) ?_
             refine zp (i := 17) (N := some 29) (bn 28 262143) (any_of HT_.out (by kernel_rfl)) ?_
             refine zp (i := 18) (N := some 30) (bn 28 524287) (any_of HT_.out (by kernel_rfl)) ?_
             refine zp (i := 19) (N := some 31) (bn 28 1048575) (any_of HT_.out (by kernel_rfl)) ?_
             refine zp (i := 20) (N := some 32) (bn 28 2097151) (any_of HT_.out (by kernel_rfl)) ?_
             refine zp (i := 21) (N := some 33) (bn 28 4194303) (any_of HT_.out (by kernel_rfl)) ?_
             refine zk (i := 22) (N := some 34) (bn 28 8388607) (take_ofW HT_.out HW_.out (by kernel_rfl)) hHeld ?_
             refine zk (i := 23) (N := some 35) (bn 28 16777215) (take_ofW HT_.out HW_.out (by kernel_rfl)) hHeld ?_
             refine one_ (i := 24) (N := some 36) (bn 28 33554431) rfl rfl (one_of HT_.out (by kernel_rfl)) (by decide) (fun K hK => ?_)
             refine goes_ Try.func73 (by kernel_rfl) rfl #[.agg #[.int .i64 ((rd_T51 l0 (ji15)).f0), .int .i64 ((rd_T51 l0 (ji15)).f1), .int .i64 ((rd_T51 l0 (ji15)).f2), .int .i64 ((rd_T51 l0 (ji15)).f3)], .agg #[.int .i64 ((rd_T51 l0 x7_1).f0), .int .i64 ((rd_T51 l0 x7_1).f1), .int .i64 ((rd_T51 l0 x7_1).f2), .int .i64 ((rd_T51 l0 x7_1).f3)]] (by rfl) rfl rfl (by (try simp only [List.map_toArray, List.map_cons, List.map_nil]); first | done | (simp only [hji15]; rfl) | rfl | (simp only [List.length_drop, List.length_take]; rfl)) ?_
             with_reducible refine (impl_compareTerms.calls k1 ((rd_T51 l0 (ji15)).f0) ((rd_T51 l0 (ji15)).f1) ((rd_T51 l0 (ji15)).f2) ((rd_T51 l0 (ji15)).f3) ((rd_T51 l0 x7_1).f0) ((rd_T51 l0 x7_1).f1) ((rd_T51 l0 x7_1).f2) ((rd_T51 l0 x7_1).f3) t362 _ A18.out).mono ?_
             rintro e w25 ⟨rfl, hb⟩
             refine ⟨_, rfl, ?_⟩
             replace BK358 := Aside0.mk (zbb BK358 hb); replace HB := Aside0.mk (below_step (zb1 HB) hb)
             (try clear hb)
             (try clear hb2)
             (try clear hk)
             (try clear hi)
             refine hK.out _ _ ⟨zc BK358 0, zc BK358 1, zc BK358 2, zc BK358 3, (pw_cell_below HB.out hw361_0), (pw_cell_below HB.out hw361_1), (pw_cell_below HB.out hw361_2), (pw_cell_below HB.out hw361_3)⟩ (fun hHeld => ?_)
             clear hK K
             refine norm_ (a' := ?_) ?_ ?_
             rotate_left
             ·
              show Act.put _ (some 36) _ = _
              simp only [Act.put, List.setIfInBounds_toArray, List.set_cons_zero, List.set_cons_succ, i64_w, i32_w]; rfl
             refine zp (i := 25) (N := some 37) (bn 28 67108863) (any_of HT_.out (by kernel_rfl)) ?_
             refine zp (i := 26) (N := some 38) (bn 28 134217727) (any_of HT_.out (by kernel_rfl)) ?_
             refine zp (i := 27) (N := some 39) (bn 28 268435455) (any_of HT_.out (by kernel_rfl)) ?_
             refine done_ (done_of HT_.out (by kernel_rfl)) ?_
             try go_wp2
             go_ret
             exact ⟨by first | rfl | (simp [errW_none, errW_some] <;> rfl) | (simp only [← hji15]; first | rfl | (simp [errW_none, errW_some] <;> rfl)) | (simp [*, errW_none, errW_some] <;> rfl), (zb1 HB)⟩
            ·
             rw [if_neg c19] at H
             have c19b0 : decide (0 ≤ t362) = false := decide_eq_false c19
             clear c19
             have H' := Aside0.mk H
             clear H
             have p357 : 0 ≤ (x7_1 : Int) := of_decide_eq_true (by first | (with_reducible assumption) | assumption)
             have q357 : x7_1 < (l0.length : Int) := of_decide_eq_true (by first | (with_reducible assumption) | assumption)
             obtain ⟨ad357, e357, hx357_0, hx357_1, hx357_2, hx357_3⟩ := at_T51 HR0.out x7_1 p357 q357
             cases e357
             replace hx357_0 := pw_cell_below HB.out hx357_0
             replace hx357_1 := pw_cell_below HB.out hx357_1
             replace hx357_2 := pw_cell_below HB.out hx357_2
             replace hx357_3 := pw_cell_below HB.out hx357_3
             replace p357 := eq_true p357
             replace q357 := eq_true q357
             try go_wp2_with (first | ((with_reducible refine gate_dst (N := 4) rfl ?_); refine zbe (N := 4) (cs := #[.int .i64 0, .int .i64 0, .int .i64 0, .int .i64 0]) (t := 51) ?_; intro gb358 hg w26 hbox hb; have BK358 := Aside0.mk (hbox); have GW358 := Aside0.mk (zge (zb0 HB) hg); have GE358 := GW358; replace HB := Aside0.mk (below_step (zb0 HB) hb); clear hb hbox hg; have hcz27_0 : w26.cell? ⟨gb358, 0, none⟩ = some (.int .i64 0) := zc BK358 0; have hcz27_1 : w26.cell? ⟨gb358, 1, none⟩ = some (.int .i64 0) := zc BK358 1; have hcz27_2 : w26.cell? ⟨gb358, 2, none⟩ = some (.int .i64 0) := zc BK358 2; have hcz27_3 : w26.cell? ⟨gb358, 3, none⟩ = some (.int .i64 0) := zc BK358 3; have hfz27_0 := blk_frozen BK358.out 0; have hfz27_1 := blk_frozen BK358.out 1; have hfz27_2 := blk_frozen BK358.out 2; have hfz27_3 := blk_frozen BK358.out 3))
             have n0_ : Aside0 (((((w26.setCell ⟨gb358, 0, none⟩ (.int .i64 ((rd_T51 l0 x7_1).f0))).setCell ⟨gb358, 1, none⟩ (.int .i64 ((rd_T51 l0 x7_1).f1))).setCell ⟨gb358, 2, none⟩ (.int .i64 ((rd_T51 l0 x7_1).f2))).setCell ⟨gb358, 3, none⟩ (.int .i64 ((rd_T51 l0 x7_1).f3))).heap[gb358]? = some (.cells #[.int .i64 ((rd_T51 l0 x7_1).f0), .int .i64 ((rd_T51 l0 x7_1).f1), .int .i64 ((rd_T51 l0 x7_1).f2), .int .i64 ((rd_T51 l0 x7_1).f3)] 51 (0, 0))) := ⟨by (with_reducible repeat (first | refine blk_drewN ?_ _ | refine blk_drew ?_ | refine blk_alloc ?_ _)); refine blk_put (cs := #[.int .i64 ((rd_T51 l0 x7_1).f0), .int .i64 ((rd_T51 l0 x7_1).f1), .int .i64 ((rd_T51 l0 x7_1).f2), .int .i64 0]) ?_ 3 _ rfl; (with_reducible repeat (first | refine blk_drewN ?_ _ | refine blk_drew ?_ | refine blk_alloc ?_ _)); refine blk_put (cs := #[.int .i64 ((rd_T51 l0 x7_1).f0), .int .i64 ((rd_T51 l0 x7_1).f1), .int .i64 0, .int .i64 0]) ?_ 2 _ rfl; (with_reducible repeat (first | refine blk_drewN ?_ _ | refine blk_drew ?_ | refine blk_alloc ?_ _)); refine blk_put (cs := #[.int .i64 ((rd_T51 l0 x7_1).f0), .int .i64 0, .int .i64 0, .int .i64 0]) ?_ 1 _ rfl; (with_reducible repeat (first | refine blk_drewN ?_ _ | refine blk_drew ?_ | refine blk_alloc ?_ _)); refine blk_put (cs := #[.int .i64 0, .int .i64 0, .int .i64 0, .int .i64 0]) ?_ 0 _ rfl; (with_reducible repeat (first | refine blk_drewN ?_ _ | refine blk_drew ?_ | refine blk_alloc ?_ _)); exact BK358.out⟩
             have n1_ : Aside0 (Below w.heap.size w ((((w26.setCell ⟨gb358, 0, none⟩ (.int .i64 ((rd_T51 l0 x7_1).f0))).setCell ⟨gb358, 1, none⟩ (.int .i64 ((rd_T51 l0 x7_1).f1))).setCell ⟨gb358, 2, none⟩ (.int .i64 ((rd_T51 l0 x7_1).f2))).setCell ⟨gb358, 3, none⟩ (.int .i64 ((rd_T51 l0 x7_1).f3)))) := ⟨(zb1 HB)⟩
             (try clear BK358)
             (try clear HB)
             generalize ((((w26.setCell ⟨gb358, 0, none⟩ (.int .i64 ((rd_T51 l0 x7_1).f0))).setCell ⟨gb358, 1, none⟩ (.int .i64 ((rd_T51 l0 x7_1).f1))).setCell ⟨gb358, 2, none⟩ (.int .i64 ((rd_T51 l0 x7_1).f2))).setCell ⟨gb358, 3, none⟩ (.int .i64 ((rd_T51 l0 x7_1).f3))) = w28 at n0_ n1_ ⊢
             have BK358 := n0_; have HB := n1_
             clear n0_ n1_
             replace BK358 := Aside0.mk (blk_drew BK358.out); replace HB := Aside0.mk (below_drew1 HB.out)
             have p361 : 0 ≤ ((ji15) : Int) := of_decide_eq_true (by first | (with_reducible assumption) | assumption)
             have q361 : (ji15) < (l0.length : Int) := of_decide_eq_true (by first | (with_reducible assumption) | assumption)
             obtain ⟨ad361, e361, hx361_0, hx361_1, hx361_2, hx361_3⟩ := at_T51 HR0.out (ji15) p361 q361
             have hw361_3 := hx361_3; have hw361_2 := hx361_2; have hw361_1 := hx361_1; have hw361_0 := hx361_0
             obtain rfl : ad357 = ad361 := (by injection e361)
             replace hx361_0 := pw_cell_below HB.out hx361_0
             replace hx361_1 := pw_cell_below HB.out hx361_1
             replace hx361_2 := pw_cell_below HB.out hx361_2
             replace hx361_3 := pw_cell_below HB.out hx361_3
             replace p361 := eq_true p361
             replace q361 := eq_true q361
             refine start_ (n := 28) (S := fun w' => w'.cell? ⟨gb358, 0, none⟩ = some (.int .i64 ((rd_T51 l0 x7_1).f0)) ∧ w'.cell? ⟨gb358, 1, none⟩ = some (.int .i64 ((rd_T51 l0 x7_1).f1)) ∧ w'.cell? ⟨gb358, 2, none⟩ = some (.int .i64 ((rd_T51 l0 x7_1).f2)) ∧ w'.cell? ⟨gb358, 3, none⟩ = some (.int .i64 ((rd_T51 l0 x7_1).f3)) ∧ w'.cell? (ad357.add (((ji15)).toNat * 4)) = some (.int .i64 ((rd_T51 l0 (ji15)).f0)) ∧ w'.cell? ⟨(ad357.add (((ji15)).toNat * 4)).block, (ad357.add (((ji15)).toNat * 4)).off + 1, none⟩ = some (.int .i64 ((rd_T51 l0 (ji15)).f1)) ∧ w'.cell? ⟨(ad357.add (((ji15)).toNat * 4)).block, (ad357.add (((ji15)).toNat * 4)).off + 2, none⟩ = some (.int .i64 ((rd_T51 l0 (ji15)).f2)) ∧ w'.cell? ⟨(ad357.add (((ji15)).toNat * 4)).block, (ad357.add (((ji15)).toNat * 4)).off + 3, none⟩ = some (.int .i64 ((rd_T51 l0 (ji15)).f3))) (ds := []) (bn 28 0) (by kernel_rfl) rfl rfl ⟨zc BK358 0, zc BK358 1, zc BK358 2, zc BK358 3, (pw_cell_below HB.out hw361_0), (pw_cell_below HB.out hw361_1), (pw_cell_below HB.out hw361_2), (pw_cell_below HB.out hw361_3)⟩ (fun hHeld => ?_); refine with_tabW impl_isPoly.tab4 impl_isPoly.bits4 (fun HT_ HW_ => ?_)
             generalize w28.drew = w29 at BK358 HB hx361_0 hx361_1 hx361_2 hx361_3 hHeld ⊢
             refine zp (i := 0) (N := some 12) (bn 28 1) (any_of HT_.out (by kernel_rfl)) ?_
             refine zk (i := 1) (N := some 13) (bn 28 3) (take_ofW HT_.out HW_.out (by kernel_rfl)) hHeld ?_
             refine zp (i := 2) (N := some 14) (bn 28 7) (any_of HT_.out (by kernel_rfl)) ?_
             refine zp (i := 3) (N := some 15) (bn 28 15) (any_of HT_.out (by kernel_rfl)) ?_
             refine zp (i := 4) (N := some 16) (bn 28 31) (any_of HT_.out (by kernel_rfl)) ?_
             refine zk (i := 5) (N := some 17) (bn 28 63) (take_ofW HT_.out HW_.out (by kernel_rfl)) hHeld ?_
             refine one_ (i := 6) (N := some 18) (bn 28 127) rfl rfl (one_of HT_.out (by kernel_rfl)) (by decide) (fun K hK => ?_)
             refine goes_ Try.func57 (by kernel_rfl) rfl #[.int .i64 ((rd_T51 l0 x7_1).f0), .int .i64 (-1000), .int .i64 1000] (by rfl) rfl rfl zq6 ?_
             with_reducible refine (impl_inside.calls ((rd_T51 l0 x7_1).f0) (-1000) 1000 true _ A10.out).mono ?_
             rintro e w' ⟨rfl, ⟨nd, rfl⟩⟩
             refine ⟨_, rfl, ?_⟩
             refine hK.out _ _ ⟨zc BK358 0, zc BK358 1, zc BK358 2, zc BK358 3, (pw_cell_below HB.out hw361_0), (pw_cell_below HB.out hw361_1), (pw_cell_below HB.out hw361_2), (pw_cell_below HB.out hw361_3)⟩ (fun hHeld => ?_)
             clear hK K
             refine norm_ (a' := ?_) ?_ ?_
             rotate_left
             ·
              show Act.put _ (some 18) _ = _
              simp only [Act.put, List.setIfInBounds_toArray, List.set_cons_zero, List.set_cons_succ, i64_w, i32_w]; rfl
             refine zp (i := 7) (N := some 19) (bn 28 255) (any_of HT_.out (by kernel_rfl)) ?_
             refine zp (i := 8) (N := some 20) (bn 28 511) (any_of HT_.out (by kernel_rfl)) ?_
             refine zp (i := 9) (N := some 21) (bn 28 1023) (any_of HT_.out (by kernel_rfl)) ?_
             refine zk (i := 10) (N := some 22) (bn 28 2047) (take_ofW HT_.out HW_.out (by kernel_rfl)) hHeld ?_
             refine one_ (i := 11) (N := some 23) (bn 28 4095) rfl rfl (one_of HT_.out (by kernel_rfl)) (by decide) (fun K hK => ?_)
             refine goes_ Try.func65 (by kernel_rfl) rfl #[.agg #[.int .i64 ((rd_T51 l0 x7_1).f0), .int .i64 ((rd_T51 l0 x7_1).f1), .int .i64 ((rd_T51 l0 x7_1).f2), .int .i64 ((rd_T51 l0 x7_1).f3)]] (by rfl) rfl rfl zq6 ?_
             with_reducible refine (impl_hasDegree.calls ((rd_T51 l0 x7_1).f0) ((rd_T51 l0 x7_1).f1) ((rd_T51 l0 x7_1).f2) ((rd_T51 l0 x7_1).f3) true _ A12.out).mono ?_
             rintro e w30 ⟨rfl, hb⟩
             refine ⟨_, rfl, ?_⟩
             replace BK358 := Aside0.mk (zbb BK358 hb); replace HB := Aside0.mk (below_step (zb1 HB) hb)
             (try clear hb)
             (try clear hb2)
             (try clear hk)
             (try clear hi)
             refine hK.out _ _ ⟨zc BK358 0, zc BK358 1, zc BK358 2, zc BK358 3, (pw_cell_below HB.out hw361_0), (pw_cell_below HB.out hw361_1), (pw_cell_below HB.out hw361_2), (pw_cell_below HB.out hw361_3)⟩ (fun hHeld => ?_)
             clear hK K
             refine norm_ (a' := ?_) ?_ ?_
             rotate_left
             ·
              show Act.put _ (some 23) _ = _
              simp only [Act.put, List.setIfInBounds_toArray, List.set_cons_zero, List.set_cons_succ, i64_w, i32_w]; rfl
             refine zp (i := 12) (N := some 24) (bn 28 8191) (any_of HT_.out (by kernel_rfl)) ?_
             refine zp (i := 13) (N := some 25) (bn 28 16383) (any_of HT_.out (by kernel_rfl)) ?_
             refine zp (i := 14) (N := some 26) (bn 28 32767) (any_of HT_.out (by kernel_rfl)) ?_
             refine zp (i := 15) (N := some 27) (bn 28 65535) (any_of HT_.out (by kernel_rfl)) ?_
             refine zp (i := 16) (N := some 28) (bn 28 131071) (any_of HT_.out (by kernel_rfl)) ?_
             refine zp (i := 17) (N := some 29) (bn 28 262143) (any_of HT_.out (by kernel_rfl)) ?_
             refine zp (i := 18) (N := some 30) (bn 28 524287) (any_of HT_.out (by kernel_rfl)) ?_
             refine zp (i := 19) (N := some 31) (bn 28 1048575) (any_of HT_.out (by kernel_rfl)) ?_
             refine zp (i := 20) (N := some 32) (bn 28 2097151) (any_of HT_.out (by kernel_rfl)) ?_
             refine zp (i := 21) (N := some 33) (bn 28 4194303) (any_of HT_.out (by kernel_rfl)) ?_
             refine zk (i := 22) (N := some 34) (bn 28 8388607) (take_ofW HT_.out HW_.out (by kernel_rfl)) hHeld ?_
             refine zk (i := 23) (N := some 35) (bn 28 16777215) (take_ofW HT_.out HW_.out (by kernel_rfl)) hHeld ?_
             refine one_ (i := 24) (N := some 36) (bn 28 33554431) rfl rfl (one_of HT_.out (by kernel_rfl)) (by decide) (fun K hK => ?_)
             refine goes_ Try.func73 (by kernel_rfl) rfl #[.agg #[.int .i64 ((rd_T51 l0 (ji15)).f0), .int .i64 ((rd_T51 l0 (ji15)).f1), .int .i64 ((rd_T51 l0 (ji15)).f2), .int .i64 ((rd_T51 l0 (ji15)).f3)], .agg #[.int .i64 ((rd_T51 l0 x7_1).f0), .int .i64 ((rd_T51 l0 x7_1).f1), .int .i64 ((rd_T51 l0 x7_1).f2), .int .i64 ((rd_T51 l0 x7_1).f3)]] (by rfl) rfl rfl (by (try simp only [List.map_toArray, List.map_cons, List.map_nil]); first | done | (simp only [hji15]; rfl) | rfl | (simp only [List.length_drop, List.length_take]; rfl)) ?_
             with_reducible refine (impl_compareTerms.calls k1 ((rd_T51 l0 (ji15)).f0) ((rd_T51 l0 (ji15)).f1) ((rd_T51 l0 (ji15)).f2) ((rd_T51 l0 (ji15)).f3) ((rd_T51 l0 x7_1).f0) ((rd_T51 l0 x7_1).f1) ((rd_T51 l0 x7_1).f2) ((rd_T51 l0 x7_1).f3) t362 _ A18.out).mono ?_
             rintro e w31 ⟨rfl, hb⟩
             refine ⟨_, rfl, ?_⟩
             replace BK358 := Aside0.mk (zbb BK358 hb); replace HB := Aside0.mk (below_step (zb1 HB) hb)
             (try clear hb)
             (try clear hb2)
             (try clear hk)
             (try clear hi)
             refine hK.out _ _ ⟨zc BK358 0, zc BK358 1, zc BK358 2, zc BK358 3, (pw_cell_below HB.out hw361_0), (pw_cell_below HB.out hw361_1), (pw_cell_below HB.out hw361_2), (pw_cell_below HB.out hw361_3)⟩ (fun hHeld => ?_)
             clear hK K
             refine norm_ (a' := ?_) ?_ ?_
             rotate_left
             ·
              show Act.put _ (some 36) _ = _
              simp only [Act.put, List.setIfInBounds_toArray, List.set_cons_zero, List.set_cons_succ, i64_w, i32_w]; rfl
             refine zp (i := 25) (N := some 37) (bn 28 67108863) (any_of HT_.out (by kernel_rfl)) ?_
             refine zp (i := 26) (N := some 38) (bn 28 134217727) (any_of HT_.out (by kernel_rfl)) ?_
             refine zp (i := 27) (N := some 39) (bn 28 268435455) (any_of HT_.out (by kernel_rfl)) ?_
             refine done_ (done_of HT_.out (by kernel_rfl)) ?_
             try go_wp2
             go_roundg k1
             case measure => have := HK1.out; omega
             case rel => exact ⟨(wrap64 (x7_1 + 1)), (by first | rfl | (simp; done) | (simp [*]; done)), H', ⟨by have := HK1.out; omega⟩, ⟨(zb1 HB)⟩⟩
           ·
            rw [if_neg c17] at H
            exact absurd H (by simp)
          ·
           rw [if_neg c16] at H
           exact absurd H (by simp)
         ·
          rw [if_neg c14] at H
          have c14b0 : decide (0 < x7_1) = false := decide_eq_false c14
          clear c14
          have H' := Aside0.mk H
          clear H
          have p357 : 0 ≤ (x7_1 : Int) := of_decide_eq_true (by first | (with_reducible assumption) | assumption)
          have q357 : x7_1 < (l0.length : Int) := of_decide_eq_true (by first | (with_reducible assumption) | assumption)
          obtain ⟨ad357, e357, hx357_0, hx357_1, hx357_2, hx357_3⟩ := at_T51 HR0.out x7_1 p357 q357
          cases e357
          replace hx357_0 := pw_cell_below HB.out hx357_0
          replace hx357_1 := pw_cell_below HB.out hx357_1
          replace hx357_2 := pw_cell_below HB.out hx357_2
          replace hx357_3 := pw_cell_below HB.out hx357_3
          replace p357 := eq_true p357
          replace q357 := eq_true q357
          try go_wp2_with (first | ((with_reducible refine gate_dst (N := 4) rfl ?_); refine zbe (N := 4) (cs := #[.int .i64 0, .int .i64 0, .int .i64 0, .int .i64 0]) (t := 51) ?_; intro gb358 hg w32 hbox hb; have BK358 := Aside0.mk (hbox); have GW358 := Aside0.mk (zge (zb0 HB) hg); have GE358 := GW358; replace HB := Aside0.mk (below_step (zb0 HB) hb); clear hb hbox hg; have hcz33_0 : w32.cell? ⟨gb358, 0, none⟩ = some (.int .i64 0) := zc BK358 0; have hcz33_1 : w32.cell? ⟨gb358, 1, none⟩ = some (.int .i64 0) := zc BK358 1; have hcz33_2 : w32.cell? ⟨gb358, 2, none⟩ = some (.int .i64 0) := zc BK358 2; have hcz33_3 : w32.cell? ⟨gb358, 3, none⟩ = some (.int .i64 0) := zc BK358 3; have hfz33_0 := blk_frozen BK358.out 0; have hfz33_1 := blk_frozen BK358.out 1; have hfz33_2 := blk_frozen BK358.out 2; have hfz33_3 := blk_frozen BK358.out 3))
          have n0_ : Aside0 (((((w32.setCell ⟨gb358, 0, none⟩ (.int .i64 ((rd_T51 l0 x7_1).f0))).setCell ⟨gb358, 1, none⟩ (.int .i64 ((rd_T51 l0 x7_1).f1))).setCell ⟨gb358, 2, none⟩ (.int .i64 ((rd_T51 l0 x7_1).f2))).setCell ⟨gb358, 3, none⟩ (.int .i64 ((rd_T51 l0 x7_1).f3))).heap[gb358]? = some (.cells #[.int .i64 ((rd_T51 l0 x7_1).f0), .int .i64 ((rd_T51 l0 x7_1).f1), .int .i64 ((rd_T51 l0 x7_1).f2), .int .i64 ((rd_T51 l0 x7_1).f3)] 51 (0, 0))) := ⟨by (with_reducible repeat (first | refine blk_drewN ?_ _ | refine blk_drew ?_ | refine blk_alloc ?_ _)); refine blk_put (cs := #[.int .i64 ((rd_T51 l0 x7_1).f0), .int .i64 ((rd_T51 l0 x7_1).f1), .int .i64 ((rd_T51 l0 x7_1).f2), .int .i64 0]) ?_ 3 _ rfl; (with_reducible repeat (first | refine blk_drewN ?_ _ | refine blk_drew ?_ | refine blk_alloc ?_ _)); refine blk_put (cs := #[.int .i64 ((rd_T51 l0 x7_1).f0), .int .i64 ((rd_T51 l0 x7_1).f1), .int .i64 0, .int .i64 0]) ?_ 2 _ rfl; (with_reducible repeat (first | refine blk_drewN ?_ _ | refine blk_drew ?_ | refine blk_alloc ?_ _)); refine blk_put (cs := #[.int .i64 ((rd_T51 l0 x7_1).f0), .int .i64 0, .int .i64 0, .int .i64 0]) ?_ 1 _ rfl; (with_reducible repeat (first | refine blk_drewN ?_ _ | refine blk_drew ?_ | refine blk_alloc ?_ _)); refine blk_put (cs := #[.int .i64 0, .int .i64 0, .int .i64 0, .int .i64 0]) ?_ 0 _ rfl; (with_reducible repeat (first | refine blk_drewN ?_ _ | refine blk_drew ?_ | refine blk_alloc ?_ _)); exact BK358.out⟩
          have n1_ : Aside0 (Below w.heap.size w ((((w32.setCell ⟨gb358, 0, none⟩ (.int .i64 ((rd_T51 l0 x7_1).f0))).setCell ⟨gb358, 1, none⟩ (.int .i64 ((rd_T51 l0 x7_1).f1))).setCell ⟨gb358, 2, none⟩ (.int .i64 ((rd_T51 l0 x7_1).f2))).setCell ⟨gb358, 3, none⟩ (.int .i64 ((rd_T51 l0 x7_1).f3)))) := ⟨(zb1 HB)⟩
          (try clear BK358)
          (try clear HB)
          generalize ((((w32.setCell ⟨gb358, 0, none⟩ (.int .i64 ((rd_T51 l0 x7_1).f0))).setCell ⟨gb358, 1, none⟩ (.int .i64 ((rd_T51 l0 x7_1).f1))).setCell ⟨gb358, 2, none⟩ (.int .i64 ((rd_T51 l0 x7_1).f2))).setCell ⟨gb358, 3, none⟩ (.int .i64 ((rd_T51 l0 x7_1).f3))) = w34 at n0_ n1_ ⊢
          have BK358 := n0_; have HB := n1_
          clear n0_ n1_
          replace BK358 := Aside0.mk (blk_drew BK358.out); replace HB := Aside0.mk (below_drew1 HB.out)
          refine start_ (n := 28) (S := fun w' => w'.cell? ⟨gb358, 0, none⟩ = some (.int .i64 ((rd_T51 l0 x7_1).f0)) ∧ w'.cell? ⟨gb358, 1, none⟩ = some (.int .i64 ((rd_T51 l0 x7_1).f1)) ∧ w'.cell? ⟨gb358, 2, none⟩ = some (.int .i64 ((rd_T51 l0 x7_1).f2)) ∧ w'.cell? ⟨gb358, 3, none⟩ = some (.int .i64 ((rd_T51 l0 x7_1).f3))) (ds := []) (bn 28 0) (by kernel_rfl) rfl rfl ⟨zc BK358 0, zc BK358 1, zc BK358 2, zc BK358 3⟩ (fun hHeld => ?_); refine with_tabW impl_isPoly.tab4 impl_isPoly.bits4 (fun HT_ HW_ => ?_)
          generalize w34.drew = w35 at BK358 HB hHeld ⊢
          refine zp (i := 0) (N := some 12) (bn 28 1) (any_of HT_.out (by kernel_rfl)) ?_
          refine zk (i := 1) (N := some 13) (bn 28 3) (take_ofW HT_.out HW_.out (by kernel_rfl)) hHeld ?_
          refine zp (i := 2) (N := some 14) (bn 28 7) (any_of HT_.out (by kernel_rfl)) ?_
          refine zp (i := 3) (N := some 15) (bn 28 15) (any_of HT_.out (by kernel_rfl)) ?_
          refine zp (i := 4) (N := some 16) (bn 28 31) (any_of HT_.out (by kernel_rfl)) ?_
          refine zk (i := 5) (N := some 17) (bn 28 63) (take_ofW HT_.out HW_.out (by kernel_rfl)) hHeld ?_
          refine one_ (i := 6) (N := some 18) (bn 28 127) rfl rfl (one_of HT_.out (by kernel_rfl)) (by decide) (fun K hK => ?_)
          refine goes_ Try.func57 (by kernel_rfl) rfl #[.int .i64 ((rd_T51 l0 x7_1).f0), .int .i64 (-1000), .int .i64 1000] (by rfl) rfl rfl zq6 ?_
          with_reducible refine (impl_inside.calls ((rd_T51 l0 x7_1).f0) (-1000) 1000 true _ A10.out).mono ?_
          rintro e w' ⟨rfl, ⟨nd, rfl⟩⟩
          refine ⟨_, rfl, ?_⟩
          refine hK.out _ _ ⟨zc BK358 0, zc BK358 1, zc BK358 2, zc BK358 3⟩ (fun hHeld => ?_)
          clear hK K
          refine norm_ (a' := ?_) ?_ ?_
          rotate_left
          ·
           show Act.put _ (some 18) _ = _
           simp only [Act.put, List.setIfInBounds_toArray, List.set_cons_zero, List.set_cons_succ, i64_w, i32_w]; rfl
          refine zp (i := 7) (N := some 19) (bn 28 255) (any_of HT_.out (by kernel_rfl)) ?_
          refine zp (i := 8) (N := some 20) (bn 28 511) (any_of HT_.out (by kernel_rfl)) ?_
          refine zp (i := 9) (N := some 21) (bn 28 1023) (any_of HT_.out (by kernel_rfl)) ?_
          refine zk (i := 10) (N := some 22) (bn 28 2047) (take_ofW HT_.out HW_.out (by kernel_rfl)) hHeld ?_
          refine one_ (i := 11) (N := some 23) (bn 28 4095) rfl rfl (one_of HT_.out (by kernel_rfl)) (by decide) (fun K hK => ?_)
          refine goes_ Try.func65 (by kernel_rfl) rfl #[.agg #[.int .i64 ((rd_T51 l0 x7_1).f0), .int .i64 ((rd_T51 l0 x7_1).f1), .int .i64 ((rd_T51 l0 x7_1).f2), .int .i64 ((rd_T51 l0 x7_1).f3)]] (by rfl) rfl rfl zq6 ?_
          with_reducible refine (impl_hasDegree.calls ((rd_T51 l0 x7_1).f0) ((rd_T51 l0 x7_1).f1) ((rd_T51 l0 x7_1).f2) ((rd_T51 l0 x7_1).f3) true _ A12.out).mono ?_
          rintro e w36 ⟨rfl, hb⟩
          refine ⟨_, rfl, ?_⟩
          replace BK358 := Aside0.mk (zbb BK358 hb); replace HB := Aside0.mk (below_step (zb1 HB) hb)
          (try clear hb)
          (try clear hb2)
          (try clear hk)
          (try clear hi)
          refine hK.out _ _ ⟨zc BK358 0, zc BK358 1, zc BK358 2, zc BK358 3⟩ (fun hHeld => ?_)
          clear hK K
          refine norm_ (a' := ?_) ?_ ?_
          rotate_left
          ·
           show Act.put _ (some 23) _ = _
           simp only [Act.put, List.setIfInBounds_toArray, List.set_cons_zero, List.set_cons_succ, i64_w, i32_w]; rfl
          refine zp (i := 12) (N := some 24) (bn 28 8191) (any_of HT_.out (by kernel_rfl)) ?_
          refine zp (i := 13) (N := some 25) (bn 28 16383) (any_of HT_.out (by kernel_rfl)) ?_
          refine zp (i := 14) (N := some 26) (bn 28 32767) (any_of HT_.out (by kernel_rfl)) ?_
          refine zp (i := 15) (N := some 27) (bn 28 65535) (any_of HT_.out (by kernel_rfl)) ?_
          refine zp (i := 16) (N := some 28) (bn 28 131071) (any_of HT_.out (by kernel_rfl)) ?_
          refine zp (i := 17) (N := some 29) (bn 28 262143) (any_of HT_.out (by kernel_rfl)) ?_
          refine zu (i := 18) (N := some 30) (bn 28 524287) (any_of HT_.out (by kernel_rfl)) ?_
          refine zu (i := 19) (N := some 31) (bn 28 1048575) (any_of HT_.out (by kernel_rfl)) ?_
          refine zu (i := 20) (N := some 32) (bn 28 2097151) (any_of HT_.out (by kernel_rfl)) ?_
          refine zu (i := 21) (N := some 33) (bn 28 4194303) (any_of HT_.out (by kernel_rfl)) ?_
          refine zu (i := 22) (N := some 34) (bn 28 8388607) (any_of HT_.out (by kernel_rfl)) ?_
          refine zu (i := 23) (N := some 35) (bn 28 16777215) (any_of HT_.out (by kernel_rfl)) ?_
          refine zu (i := 24) (N := some 36) (bn 28 33554431) (any_of HT_.out (by kernel_rfl)) ?_
          refine zu (i := 25) (N := some 37) (bn 28 67108863) (any_of HT_.out (by kernel_rfl)) ?_
          refine zp (i := 26) (N := some 38) (bn 28 134217727) (any_of HT_.out (by kernel_rfl)) ?_
          refine zp (i := 27) (N := some 39) (bn 28 268435455) (any_of HT_.out (by kernel_rfl)) ?_
          refine done_ (done_of HT_.out (by kernel_rfl)) ?_
          try go_wp2
          go_roundg k1
          case measure => have := HK1.out; omega
          case rel => exact ⟨(wrap64 (x7_1 + 1)), (by first | rfl | (simp; done) | (simp [*]; done)), H', ⟨by have := HK1.out; omega⟩, ⟨(zb1 HB)⟩⟩
        ·
         replace c13 := Bool.eq_false_iff.mpr c13
         subst c13
         have H1 : (some false) = some r := by rw [if_neg (show ¬ (false = true) by decide)] at H; exact H
         clear H
         have H := H1
         clear H1
         obtain rfl := Option.some.inj H
         have p357 : 0 ≤ (x7_1 : Int) := of_decide_eq_true (by first | (with_reducible assumption) | assumption)
         have q357 : x7_1 < (l0.length : Int) := of_decide_eq_true (by first | (with_reducible assumption) | assumption)
         obtain ⟨ad357, e357, hx357_0, hx357_1, hx357_2, hx357_3⟩ := at_T51 HR0.out x7_1 p357 q357
         cases e357
         replace hx357_0 := pw_cell_below HB.out hx357_0
         replace hx357_1 := pw_cell_below HB.out hx357_1
         replace hx357_2 := pw_cell_below HB.out hx357_2
         replace hx357_3 := pw_cell_below HB.out hx357_3
         replace p357 := eq_true p357
         replace q357 := eq_true q357
         try go_wp2_with (first | ((with_reducible refine gate_dst (N := 4) rfl ?_); refine zbe (N := 4) (cs := #[.int .i64 0, .int .i64 0, .int .i64 0, .int .i64 0]) (t := 51) ?_; intro gb358 hg w37 hbox hb; have BK358 := Aside0.mk (hbox); have GW358 := Aside0.mk (zge (zb0 HB) hg); have GE358 := GW358; replace HB := Aside0.mk (below_step (zb0 HB) hb); clear hb hbox hg; have hcz38_0 : w37.cell? ⟨gb358, 0, none⟩ = some (.int .i64 0) := zc BK358 0; have hcz38_1 : w37.cell? ⟨gb358, 1, none⟩ = some (.int .i64 0) := zc BK358 1; have hcz38_2 : w37.cell? ⟨gb358, 2, none⟩ = some (.int .i64 0) := zc BK358 2; have hcz38_3 : w37.cell? ⟨gb358, 3, none⟩ = some (.int .i64 0) := zc BK358 3; have hfz38_0 := blk_frozen BK358.out 0; have hfz38_1 := blk_frozen BK358.out 1; have hfz38_2 := blk_frozen BK358.out 2; have hfz38_3 := blk_frozen BK358.out 3))
         have n0_ : Aside0 (((((w37.setCell ⟨gb358, 0, none⟩ (.int .i64 ((rd_T51 l0 x7_1).f0))).setCell ⟨gb358, 1, none⟩ (.int .i64 ((rd_T51 l0 x7_1).f1))).setCell ⟨gb358, 2, none⟩ (.int .i64 ((rd_T51 l0 x7_1).f2))).setCell ⟨gb358, 3, none⟩ (.int .i64 ((rd_T51 l0 x7_1).f3))).heap[gb358]? = some (.cells #[.int .i64 ((rd_T51 l0 x7_1).f0), .int .i64 ((rd_T51 l0 x7_1).f1), .int .i64 ((rd_T51 l0 x7_1).f2), .int .i64 ((rd_T51 l0 x7_1).f3)] 51 (0, 0))) := ⟨by (with_reducible repeat (first | refine blk_drewN ?_ _ | refine blk_drew ?_ | refine blk_alloc ?_ _)); refine blk_put (cs := #[.int .i64 ((rd_T51 l0 x7_1).f0), .int .i64 ((rd_T51 l0 x7_1).f1), .int .i64 ((rd_T51 l0 x7_1).f2), .int .i64 0]) ?_ 3 _ rfl; (with_reducible repeat (first | refine blk_drewN ?_ _ | refine blk_drew ?_ | refine blk_alloc ?_ _)); refine blk_put (cs := #[.int .i64 ((rd_T51 l0 x7_1).f0), .int .i64 ((rd_T51 l0 x7_1).f1), .int .i64 0, .int .i64 0]) ?_ 2 _ rfl; (with_reducible repeat (first | refine blk_drewN ?_ _ | refine blk_drew ?_ | refine blk_alloc ?_ _)); refine blk_put (cs := #[.int .i64 ((rd_T51 l0 x7_1).f0), .int .i64 0, .int .i64 0, .int .i64 0]) ?_ 1 _ rfl; (with_reducible repeat (first | refine blk_drewN ?_ _ | refine blk_drew ?_ | refine blk_alloc ?_ _)); refine blk_put (cs := #[.int .i64 0, .int .i64 0, .int .i64 0, .int .i64 0]) ?_ 0 _ rfl; (with_reducible repeat (first | refine blk_drewN ?_ _ | refine blk_drew ?_ | refine blk_alloc ?_ _)); exact BK358.out⟩
         have n1_ : Aside0 (Below w.heap.size w ((((w37.setCell ⟨gb358, 0, none⟩ (.int .i64 ((rd_T51 l0 x7_1).f0))).setCell ⟨gb358, 1, none⟩ (.int .i64 ((rd_T51 l0 x7_1).f1))).setCell ⟨gb358, 2, none⟩ (.int .i64 ((rd_T51 l0 x7_1).f2))).setCell ⟨gb358, 3, none⟩ (.int .i64 ((rd_T51 l0 x7_1).f3)))) := ⟨(zb1 HB)⟩
         (try clear BK358)
         (try clear HB)
         generalize ((((w37.setCell ⟨gb358, 0, none⟩ (.int .i64 ((rd_T51 l0 x7_1).f0))).setCell ⟨gb358, 1, none⟩ (.int .i64 ((rd_T51 l0 x7_1).f1))).setCell ⟨gb358, 2, none⟩ (.int .i64 ((rd_T51 l0 x7_1).f2))).setCell ⟨gb358, 3, none⟩ (.int .i64 ((rd_T51 l0 x7_1).f3))) = w39 at n0_ n1_ ⊢
         have BK358 := n0_; have HB := n1_
         clear n0_ n1_
         replace BK358 := Aside0.mk (blk_drew BK358.out); replace HB := Aside0.mk (below_drew1 HB.out)
         refine start_ (n := 28) (S := fun w' => w'.cell? ⟨gb358, 0, none⟩ = some (.int .i64 ((rd_T51 l0 x7_1).f0)) ∧ w'.cell? ⟨gb358, 1, none⟩ = some (.int .i64 ((rd_T51 l0 x7_1).f1)) ∧ w'.cell? ⟨gb358, 2, none⟩ = some (.int .i64 ((rd_T51 l0 x7_1).f2)) ∧ w'.cell? ⟨gb358, 3, none⟩ = some (.int .i64 ((rd_T51 l0 x7_1).f3))) (ds := []) (bn 28 0) (by kernel_rfl) rfl rfl ⟨zc BK358 0, zc BK358 1, zc BK358 2, zc BK358 3⟩ (fun hHeld => ?_); refine with_tabW impl_isPoly.tab4 impl_isPoly.bits4 (fun HT_ HW_ => ?_)
         generalize w39.drew = w40 at BK358 HB hHeld ⊢
         refine zp (i := 0) (N := some 12) (bn 28 1) (any_of HT_.out (by kernel_rfl)) ?_
         refine zk (i := 1) (N := some 13) (bn 28 3) (take_ofW HT_.out HW_.out (by kernel_rfl)) hHeld ?_
         refine zp (i := 2) (N := some 14) (bn 28 7) (any_of HT_.out (by kernel_rfl)) ?_
         refine zp (i := 3) (N := some 15) (bn 28 15) (any_of HT_.out (by kernel_rfl)) ?_
         refine zp (i := 4) (N := some 16) (bn 28 31) (any_of HT_.out (by kernel_rfl)) ?_
         refine zk (i := 5) (N := some 17) (bn 28 63) (take_ofW HT_.out HW_.out (by kernel_rfl)) hHeld ?_
         refine one_ (i := 6) (N := some 18) (bn 28 127) rfl rfl (one_of HT_.out (by kernel_rfl)) (by decide) (fun K hK => ?_)
         refine goes_ Try.func57 (by kernel_rfl) rfl #[.int .i64 ((rd_T51 l0 x7_1).f0), .int .i64 (-1000), .int .i64 1000] (by rfl) rfl rfl zq6 ?_
         with_reducible refine (impl_inside.calls ((rd_T51 l0 x7_1).f0) (-1000) 1000 true _ A10.out).mono ?_
         rintro e w' ⟨rfl, ⟨nd, rfl⟩⟩
         refine ⟨_, rfl, ?_⟩
         refine hK.out _ _ ⟨zc BK358 0, zc BK358 1, zc BK358 2, zc BK358 3⟩ (fun hHeld => ?_)
         clear hK K
         refine norm_ (a' := ?_) ?_ ?_
         rotate_left
         ·
          show Act.put _ (some 18) _ = _
          simp only [Act.put, List.setIfInBounds_toArray, List.set_cons_zero, List.set_cons_succ, i64_w, i32_w]; rfl
         refine zp (i := 7) (N := some 19) (bn 28 255) (any_of HT_.out (by kernel_rfl)) ?_
         refine zp (i := 8) (N := some 20) (bn 28 511) (any_of HT_.out (by kernel_rfl)) ?_
         refine zp (i := 9) (N := some 21) (bn 28 1023) (any_of HT_.out (by kernel_rfl)) ?_
         refine zk (i := 10) (N := some 22) (bn 28 2047) (take_ofW HT_.out HW_.out (by kernel_rfl)) hHeld ?_
         refine one_ (i := 11) (N := some 23) (bn 28 4095) rfl rfl (one_of HT_.out (by kernel_rfl)) (by decide) (fun K hK => ?_)
         refine goes_ Try.func65 (by kernel_rfl) rfl #[.agg #[.int .i64 ((rd_T51 l0 x7_1).f0), .int .i64 ((rd_T51 l0 x7_1).f1), .int .i64 ((rd_T51 l0 x7_1).f2), .int .i64 ((rd_T51 l0 x7_1).f3)]] (by rfl) rfl rfl zq6 ?_
         with_reducible refine (impl_hasDegree.calls ((rd_T51 l0 x7_1).f0) ((rd_T51 l0 x7_1).f1) ((rd_T51 l0 x7_1).f2) ((rd_T51 l0 x7_1).f3) false _ A12.out).mono ?_
         rintro e w41 ⟨rfl, hb⟩
         refine ⟨_, rfl, ?_⟩
         replace BK358 := Aside0.mk (zbb BK358 hb); replace HB := Aside0.mk (below_step (zb1 HB) hb)
         (try clear hb)
         (try clear hb2)
         (try clear hk)
         (try clear hi)
         refine hK.out _ _ ⟨zc BK358 0, zc BK358 1, zc BK358 2, zc BK358 3⟩ (fun hHeld => ?_)
         clear hK K
         refine norm_ (a' := ?_) ?_ ?_
         rotate_left
         ·
          show Act.put _ (some 23) _ = _
          simp only [Act.put, List.setIfInBounds_toArray, List.set_cons_zero, List.set_cons_succ, i64_w, i32_w]; rfl
         refine zp (i := 12) (N := some 24) (bn 28 8191) (any_of HT_.out (by kernel_rfl)) ?_
         refine zp (i := 13) (N := some 25) (bn 28 16383) (any_of HT_.out (by kernel_rfl)) ?_
         refine zp (i := 14) (N := some 26) (bn 28 32767) (any_of HT_.out (by kernel_rfl)) ?_
         refine zu (i := 15) (N := some 27) (bn 28 65535) (any_of HT_.out (by kernel_rfl)) ?_
         refine zu (i := 16) (N := some 28) (bn 28 131071) (any_of HT_.out (by kernel_rfl)) ?_
         refine zu (i := 17) (N := some 29) (bn 28 262143) (any_of HT_.out (by kernel_rfl)) ?_
         refine zu (i := 18) (N := some 30) (bn 28 524287) (any_of HT_.out (by kernel_rfl)) ?_
         refine zu (i := 19) (N := some 31) (bn 28 1048575) (any_of HT_.out (by kernel_rfl)) ?_
         refine zu (i := 20) (N := some 32) (bn 28 2097151) (any_of HT_.out (by kernel_rfl)) ?_
         refine zu (i := 21) (N := some 33) (bn 28 4194303) (any_of HT_.out (by kernel_rfl)) ?_
         refine zu (i := 22) (N := some 34) (bn 28 8388607) (any_of HT_.out (by kernel_rfl)) ?_
         refine zu (i := 23) (N := some 35) (bn 28 16777215) (any_of HT_.out (by kernel_rfl)) ?_
         refine zu (i := 24) (N := some 36) (bn 28 33554431) (any_of HT_.out (by kernel_rfl)) ?_
         refine zu (i := 25) (N := some 37) (bn 28 67108863) (any_of HT_.out (by kernel_rfl)) ?_
         refine zu (i := 26) (N := some 38) (bn 28 134217727) (any_of HT_.out (by kernel_rfl)) ?_
         refine zp (i := 27) (N := some 39) (bn 28 268435455) (any_of HT_.out (by kernel_rfl)) ?_
         refine done_ (done_of HT_.out (by kernel_rfl)) ?_
         try go_wp2
         go_ret
         exact ⟨by first | rfl | (simp [errW_none, errW_some] <;> rfl) | (simp [*, errW_none, errW_some] <;> rfl), (zb1 HB)⟩
       ·
        replace c11 := Bool.eq_false_iff.mpr c11
        subst c11
        have H1 : (some false) = some r := by rw [if_neg (show ¬ (false = true) by decide)] at H; exact H
        clear H
        have H := H1
        clear H1
        obtain rfl := Option.some.inj H
        have p357 : 0 ≤ (x7_1 : Int) := of_decide_eq_true (by first | (with_reducible assumption) | assumption)
        have q357 : x7_1 < (l0.length : Int) := of_decide_eq_true (by first | (with_reducible assumption) | assumption)
        obtain ⟨ad357, e357, hx357_0, hx357_1, hx357_2, hx357_3⟩ := at_T51 HR0.out x7_1 p357 q357
        cases e357
        replace hx357_0 := pw_cell_below HB.out hx357_0
        replace hx357_1 := pw_cell_below HB.out hx357_1
        replace hx357_2 := pw_cell_below HB.out hx357_2
        replace hx357_3 := pw_cell_below HB.out hx357_3
        replace p357 := eq_true p357
        replace q357 := eq_true q357
        try go_wp2_with (first | ((with_reducible refine gate_dst (N := 4) rfl ?_); refine zbe (N := 4) (cs := #[.int .i64 0, .int .i64 0, .int .i64 0, .int .i64 0]) (t := 51) ?_; intro gb358 hg w42 hbox hb; have BK358 := Aside0.mk (hbox); have GW358 := Aside0.mk (zge (zb0 HB) hg); have GE358 := GW358; replace HB := Aside0.mk (below_step (zb0 HB) hb); clear hb hbox hg; have hcz43_0 : w42.cell? ⟨gb358, 0, none⟩ = some (.int .i64 0) := zc BK358 0; have hcz43_1 : w42.cell? ⟨gb358, 1, none⟩ = some (.int .i64 0) := zc BK358 1; have hcz43_2 : w42.cell? ⟨gb358, 2, none⟩ = some (.int .i64 0) := zc BK358 2; have hcz43_3 : w42.cell? ⟨gb358, 3, none⟩ = some (.int .i64 0) := zc BK358 3; have hfz43_0 := blk_frozen BK358.out 0; have hfz43_1 := blk_frozen BK358.out 1; have hfz43_2 := blk_frozen BK358.out 2; have hfz43_3 := blk_frozen BK358.out 3))
        have n0_ : Aside0 (((((w42.setCell ⟨gb358, 0, none⟩ (.int .i64 ((rd_T51 l0 x7_1).f0))).setCell ⟨gb358, 1, none⟩ (.int .i64 ((rd_T51 l0 x7_1).f1))).setCell ⟨gb358, 2, none⟩ (.int .i64 ((rd_T51 l0 x7_1).f2))).setCell ⟨gb358, 3, none⟩ (.int .i64 ((rd_T51 l0 x7_1).f3))).heap[gb358]? = some (.cells #[.int .i64 ((rd_T51 l0 x7_1).f0), .int .i64 ((rd_T51 l0 x7_1).f1), .int .i64 ((rd_T51 l0 x7_1).f2), .int .i64 ((rd_T51 l0 x7_1).f3)] 51 (0, 0))) := ⟨by (with_reducible repeat (first | refine blk_drewN ?_ _ | refine blk_drew ?_ | refine blk_alloc ?_ _)); refine blk_put (cs := #[.int .i64 ((rd_T51 l0 x7_1).f0), .int .i64 ((rd_T51 l0 x7_1).f1), .int .i64 ((rd_T51 l0 x7_1).f2), .int .i64 0]) ?_ 3 _ rfl; (with_reducible repeat (first | refine blk_drewN ?_ _ | refine blk_drew ?_ | refine blk_alloc ?_ _)); refine blk_put (cs := #[.int .i64 ((rd_T51 l0 x7_1).f0), .int .i64 ((rd_T51 l0 x7_1).f1), .int .i64 0, .int .i64 0]) ?_ 2 _ rfl; (with_reducible repeat (first | refine blk_drewN ?_ _ | refine blk_drew ?_ | refine blk_alloc ?_ _)); refine blk_put (cs := #[.int .i64 ((rd_T51 l0 x7_1).f0), .int .i64 0, .int .i64 0, .int .i64 0]) ?_ 1 _ rfl; (with_reducible repeat (first | refine blk_drewN ?_ _ | refine blk_drew ?_ | refine blk_alloc ?_ _)); refine blk_put (cs := #[.int .i64 0, .int .i64 0, .int .i64 0, .int .i64 0]) ?_ 0 _ rfl; (with_reducible repeat (first | refine blk_drewN ?_ _ | refine blk_drew ?_ | refine blk_alloc ?_ _)); exact BK358.out⟩
        have n1_ : Aside0 (Below w.heap.size w ((((w42.setCell ⟨gb358, 0, none⟩ (.int .i64 ((rd_T51 l0 x7_1).f0))).setCell ⟨gb358, 1, none⟩ (.int .i64 ((rd_T51 l0 x7_1).f1))).setCell ⟨gb358, 2, none⟩ (.int .i64 ((rd_T51 l0 x7_1).f2))).setCell ⟨gb358, 3, none⟩ (.int .i64 ((rd_T51 l0 x7_1).f3)))) := ⟨(zb1 HB)⟩
        (try clear BK358)
        (try clear HB)
        generalize ((((w42.setCell ⟨gb358, 0, none⟩ (.int .i64 ((rd_T51 l0 x7_1).f0))).setCell ⟨gb358, 1, none⟩ (.int .i64 ((rd_T51 l0 x7_1).f1))).setCell ⟨gb358, 2, none⟩ (.int .i64 ((rd_T51 l0 x7_1).f2))).setCell ⟨gb358, 3, none⟩ (.int .i64 ((rd_T51 l0 x7_1).f3))) = w44 at n0_ n1_ ⊢
        have BK358 := n0_; have HB := n1_
        clear n0_ n1_
        replace BK358 := Aside0.mk (blk_drew BK358.out); replace HB := Aside0.mk (below_drew1 HB.out)
        refine start_ (n := 28) (S := fun w' => w'.cell? ⟨gb358, 0, none⟩ = some (.int .i64 ((rd_T51 l0 x7_1).f0)) ∧ w'.cell? ⟨gb358, 1, none⟩ = some (.int .i64 ((rd_T51 l0 x7_1).f1)) ∧ w'.cell? ⟨gb358, 2, none⟩ = some (.int .i64 ((rd_T51 l0 x7_1).f2)) ∧ w'.cell? ⟨gb358, 3, none⟩ = some (.int .i64 ((rd_T51 l0 x7_1).f3))) (ds := []) (bn 28 0) (by kernel_rfl) rfl rfl ⟨zc BK358 0, zc BK358 1, zc BK358 2, zc BK358 3⟩ (fun hHeld => ?_); refine with_tabW impl_isPoly.tab4 impl_isPoly.bits4 (fun HT_ HW_ => ?_)
        generalize w44.drew = w45 at BK358 HB hHeld ⊢
        refine zp (i := 0) (N := some 12) (bn 28 1) (any_of HT_.out (by kernel_rfl)) ?_
        refine zk (i := 1) (N := some 13) (bn 28 3) (take_ofW HT_.out HW_.out (by kernel_rfl)) hHeld ?_
        refine zp (i := 2) (N := some 14) (bn 28 7) (any_of HT_.out (by kernel_rfl)) ?_
        refine zp (i := 3) (N := some 15) (bn 28 15) (any_of HT_.out (by kernel_rfl)) ?_
        refine zp (i := 4) (N := some 16) (bn 28 31) (any_of HT_.out (by kernel_rfl)) ?_
        refine zk (i := 5) (N := some 17) (bn 28 63) (take_ofW HT_.out HW_.out (by kernel_rfl)) hHeld ?_
        refine one_ (i := 6) (N := some 18) (bn 28 127) rfl rfl (one_of HT_.out (by kernel_rfl)) (by decide) (fun K hK => ?_)
        refine goes_ Try.func57 (by kernel_rfl) rfl #[.int .i64 ((rd_T51 l0 x7_1).f0), .int .i64 (-1000), .int .i64 1000] (by rfl) rfl rfl zq6 ?_
        with_reducible refine (impl_inside.calls ((rd_T51 l0 x7_1).f0) (-1000) 1000 false _ A10.out).mono ?_
        rintro e w' ⟨rfl, ⟨nd, rfl⟩⟩
        refine ⟨_, rfl, ?_⟩
        refine hK.out _ _ ⟨zc BK358 0, zc BK358 1, zc BK358 2, zc BK358 3⟩ (fun hHeld => ?_)
        clear hK K
        refine norm_ (a' := ?_) ?_ ?_
        rotate_left
        ·
         show Act.put _ (some 18) _ = _
         simp only [Act.put, List.setIfInBounds_toArray, List.set_cons_zero, List.set_cons_succ, i64_w, i32_w]; rfl
        refine zp (i := 7) (N := some 19) (bn 28 255) (any_of HT_.out (by kernel_rfl)) ?_
        refine zp (i := 8) (N := some 20) (bn 28 511) (any_of HT_.out (by kernel_rfl)) ?_
        refine zp (i := 9) (N := some 21) (bn 28 1023) (any_of HT_.out (by kernel_rfl)) ?_
        refine zu (i := 10) (N := some 22) (bn 28 2047) (any_of HT_.out (by kernel_rfl)) ?_
        refine zu (i := 11) (N := some 23) (bn 28 4095) (any_of HT_.out (by kernel_rfl)) ?_
        refine zu (i := 12) (N := some 24) (bn 28 8191) (any_of HT_.out (by kernel_rfl)) ?_
        refine zp (i := 13) (N := some 25) (bn 28 16383) (any_of HT_.out (by kernel_rfl)) ?_
        refine zp (i := 14) (N := some 26) (bn 28 32767) (any_of HT_.out (by kernel_rfl)) ?_
        refine zu (i := 15) (N := some 27) (bn 28 65535) (any_of HT_.out (by kernel_rfl)) ?_
        refine zu (i := 16) (N := some 28) (bn 28 131071) (any_of HT_.out (by kernel_rfl)) ?_
        refine zu (i := 17) (N := some 29) (bn 28 262143) (any_of HT_.out (by kernel_rfl)) ?_
        refine zu (i := 18) (N := some 30) (bn 28 524287) (any_of HT_.out (by kernel_rfl)) ?_
        refine zu (i := 19) (N := some 31) (bn 28 1048575) (any_of HT_.out (by kernel_rfl)) ?_
        refine zu (i := 20) (N := some 32) (bn 28 2097151) (any_of HT_.out (by kernel_rfl)) ?_
        refine zu (i := 21) (N := some 33) (bn 28 4194303) (any_of HT_.out (by kernel_rfl)) ?_
        refine zu (i := 22) (N := some 34) (bn 28 8388607) (any_of HT_.out (by kernel_rfl)) ?_
        refine zu (i := 23) (N := some 35) (bn 28 16777215) (any_of HT_.out (by kernel_rfl)) ?_
        refine zu (i := 24) (N := some 36) (bn 28 33554431) (any_of HT_.out (by kernel_rfl)) ?_
        refine zu (i := 25) (N := some 37) (bn 28 67108863) (any_of HT_.out (by kernel_rfl)) ?_
        refine zu (i := 26) (N := some 38) (bn 28 134217727) (any_of HT_.out (by kernel_rfl)) ?_
        refine zp (i := 27) (N := some 39) (bn 28 268435455) (any_of HT_.out (by kernel_rfl)) ?_
        refine done_ (done_of HT_.out (by kernel_rfl)) ?_
        try go_wp2
        go_ret
        exact ⟨by first | rfl | (simp [errW_none, errW_some] <;> rfl) | (simp [*, errW_none, errW_some] <;> rfl), (zb1 HB)⟩
     ·
      rw [if_neg c4] at H
      exact absurd H (by simp)
    ·
     rw [if_neg c3] at H
     exact absurd H (by simp)
   ·
    rw [if_neg c2] at H
    have c2b0 : decide (x7_1 < (l0.length : Int)) = false := decide_eq_false c2
    clear c2
    obtain rfl := Option.some.inj H
    go_wp2
    go_ret
    exact ⟨by first | rfl | (simp [errW_none, errW_some] <;> rfl) | (simp [*, errW_none, errW_some] <;> rfl), (zb0 HB)⟩
/-! ### impl_polyResult: function 46 -/
theorem z46_0 {P Q : Prop} (h : Aside0 (Q)) (f : Q → P := by intro h_; repeat (first | (with_reducible first | exact h_ | apply Kept.alloc | apply Kept.drewN | apply Kept.drew) | exact h_)) : P := f h.out
set_option maxHeartbeats 8000000 in
set_option maxRecDepth 100000 in
theorem impl_polyResult.calls (k : Nat) (P0_ : Nat → Prop) (u9000_ : Value) (l0 : List (S51)) (r1 : List (S51)) (r2 : Bool) (w0 w : World) (hB : Below w0.heap.size w0 w) (ho0 : Kd.R k51 51 w w0.heap.size P0_ u9000_ l0) (h : impl_polyResult.f k l0 = some (r1, r2)) :
  Calls Try.prog 46 #[u9000_] w fun e w' => ∃ v0_ : Value, e = .returned (.tuple #[v0_, .bool r2]) ∧ Kd.R k51 51 w' w0.heap.size (fun k_ => (P0_ k_ ∨ w.heap.size ≤ k_)) v0_ r1 ∧ Below w0.heap.size w0 w' ∧ Kept w w' (fun k_ => P0_ k_) := by
 have HO0 := Aside0.mk (show Kd.R k51 51 w w0.heap.size (fun k_ => (P0_ k_ ∨ w.heap.size ≤ k_)) u9000_ l0 from Kd.R_mono ho0 (fun k_ hk => (.inl hk)))
 have HK := Aside0.mk (Kept.refl w (fun k_ => P0_ k_))
 have HW0 := Aside0.mk hB.size
 have HB := Aside0.mk hB
 clear hB
 have H : ((impl_isPoly.f k l0).bind fun t363 => (if t363 = true then (some (l0, true)) else (some (([] : List (S51)), false)))) = some (r1, r2) := h
 clear h
 replace H := Option.bind_eq_some_iff.mp H
 obtain ⟨t363, A20, H⟩ := H
 replace H : (if t363 = true then (some (l0, true)) else (some (([] : List (S51)), false))) = some (r1, r2) := H
 have A2 := Aside0.mk A20
 clear A20
 by_cases c3 : t363 = true
 ·
  subst c3
  have H1 : (some (l0, true)) = some (r1, r2) := by rw [if_pos rfl] at H; exact H
  clear H
  have H := H1
  clear H1
  simp only [Option.some.injEq, Prod.mk.injEq] at H
  obtain ⟨rfl, rfl⟩ := H
  obtain ⟨Ao4, co4, eo4⟩ := Kd.R_slice HO0.out
  subst eo4
  go_enter Try.func46, Try.ntmps46
  go_wp2_with (first | ((with_reducible refine gate_callee (f := 40) rfl ?_); refine goesL_ (some 5) rfl rfl Try.func40 (by kernel_rfl) rfl #[.slice Ao4 l0.length co4] rfl zq6 ?_; (with_reducible refine (impl_isPoly.calls k _ _ l0 true _ ?side1 ?side2 A2.out).mono ?_); (case side1 => repeat (first | exact (Kd.R_reads' HO0.out).2.2 | (with_reducible refine Kd.C_alloc ?_ _) | (with_reducible refine Kd.C_drewN ?_ _) | (with_reducible refine Kd.C_drew ?_))); (case side2 => exact (Kd.R_reads' HO0.out).2.1); rintro e w5 ⟨rfl, hb⟩; refine ⟨_, rfl, ?_⟩; replace HO0 := Aside0.mk (Kd.R_below (zq3 HO0) hb); replace HK := Aside0.mk (Kept.below (S := (fun k_ => P0_ k_)) (z46_0 HK) hb); replace HB := Aside0.mk (below_step (zb0 HB) hb); (try clear hb); (try clear hb2); (try clear hk); (try clear hi)))
  go_ret2
  exact ⟨_, by first | rfl | (simp [errW_none, errW_some] <;> rfl) | (simp [*, errW_none, errW_some] <;> rfl), by (with_reducible repeat (first | apply Kd.R_alloc | apply Kd.R_drewN | apply Kd.R_drew)); exact HO0.out, (zb0 HB), (z46_0 HK)⟩
 ·
  replace c3 := Bool.eq_false_iff.mpr c3
  subst c3
  have H1 : (some (([] : List (S51)), false)) = some (r1, r2) := by rw [if_neg (show ¬ (false = true) by decide)] at H; exact H
  clear H
  have H := H1
  clear H1
  simp only [Option.some.injEq, Prod.mk.injEq] at H
  obtain ⟨rfl, rfl⟩ := H
  obtain ⟨Ao6, co6, eo6⟩ := Kd.R_slice HO0.out
  subst eo6
  go_enter Try.func46, Try.ntmps46
  go_wp2_with (first | ((with_reducible refine gate_callee (f := 40) rfl ?_); refine goesL_ (some 5) rfl rfl Try.func40 (by kernel_rfl) rfl #[.slice Ao6 l0.length co6] rfl zq6 ?_; (with_reducible refine (impl_isPoly.calls k _ _ l0 false _ ?side1 ?side2 A2.out).mono ?_); (case side1 => repeat (first | exact (Kd.R_reads' HO0.out).2.2 | (with_reducible refine Kd.C_alloc ?_ _) | (with_reducible refine Kd.C_drewN ?_ _) | (with_reducible refine Kd.C_drew ?_))); (case side2 => exact (Kd.R_reads' HO0.out).2.1); rintro e w7 ⟨rfl, hb⟩; refine ⟨_, rfl, ?_⟩; replace HO0 := Aside0.mk (Kd.R_below (zq3 HO0) hb); replace HK := Aside0.mk (Kept.below (S := (fun k_ => P0_ k_)) (z46_0 HK) hb); replace HB := Aside0.mk (below_step (zb0 HB) hb); (try clear hb); (try clear hb2); (try clear hk); (try clear hi)))
  go_ret2
  exact ⟨_, by first | rfl | (simp [errW_none, errW_some] <;> rfl) | (simp [*, errW_none, errW_some] <;> rfl), by first | exact Kd.R_nil _ _ _ _ _ | exact Kd.N_nil _ _ _ _ _ | exact Kd.V_nil _ _ _ _ _ | exact Kd.Q_nil _ _ _ _ _ | exact Kd.S_nil _ _ _ _ _, (zb0 HB), (z46_0 HK)⟩
end Go.Proofs.Ythanmlojikidbaa.PD
