-- By wip/mk/drv.py
import Derived.Test.YthanmlojikidbaaGreatQUnknnsPDx0
import Derived.Test.YthanmlojikidbaaGreatQUnknnsPDx5
import Derived.Test.YthanmlojikidbaaGreatQUnknnsPDx11
import Derived.Test.YthanmlojikidbaaGreatQUnknnsPDx6
namespace Go.Proofs.YthanmlojikidbaaGreat.PD
open Go.RowKit Go.Proofs.YthanmlojikidbaaGreatW.PrintWords Go.Proofs.YthanmlojikidbaaGreatW.PrintLast Go.Proofs.YthanmlojikidbaaGreatW.PrintMore
attribute [local go_sem] max2_int min2_int max_two min_two max_three min_three max_four min_four
set_option linter.unusedVariables false
set_option linter.unusedSimpArgs false
/-! ### spec_DrawDerivePoly: function 56 -/
theorem z56_0 {P Q : Prop} (h : Aside0 (Q)) (f : Q → P := by intro h_; repeat (first | (with_reducible first | exact h_ | apply IsS51.alloc | apply IsS51.drewN | apply IsS51.drew | apply IsS51.set_1 | apply IsS51.set_2) | exact h_)) : P := f h.out
theorem z56_1 {w W0 W1 : World} {B : Nat} (h : Aside0 (Below B w W0)) (f : Below B w W0 → Below B w W1 := by intro h_; repeat (first | (with_reducible first | exact h_ | apply below_alloc | apply pw_below_drewN | apply below_drew1 | refine below_set ?_ (IsS51.ge (Aside0.out (by assumption)))) | exact h_)) : Below B w W1 := f h.out
set_option maxHeartbeats 8000000 in
set_option maxRecDepth 100000 in
theorem spec_DrawDerivePoly.calls (k : Nat) (A0 : Option Addr) (c0 : Nat) (l0 : List Int) (r1 : List (S62)) (r2 : Int) (w : World) (hr0 : Kd.C (Kd.int .u8) w A0 l0.length l0) (hc0 : l0.length ≤ c0) (h : spec_DrawDerivePoly.f k l0 = some (r1, r2)) :
  Calls Tryz.prog 56 #[.slice A0 l0.length c0] w fun e w' => ∃ v0_ : Value, e = .returned (.tuple #[v0_, .int .i64 r2]) ∧ Kd.R k62 62 w' w.heap.size (fun _ => True) v0_ r1 ∧ Below w.heap.size w w' := by
 have hu51 := Tryz.underlying51
 have HR0 := qa hr0
 have HC0 := qa hc0
 clear hr0 hc0
 have HB := qa (Below.refl w.heap.size w)
 have H : ((spec_l1Cur_pick.f l0 0 0 3).bind fun bt560 => ((spec_l1Cur_anyPoly.f k l0 bt560.2.1 bt560.2.2 (wrap64 (1 + bt560.1))).bind fun bt563 => ((spec_l1Cur_unknownOf.f l0 bt563.2.1 bt563.2.2).bind fun bt568 => (some (bt563.1, bt568.1))))) = some (r1, r2) := h
 clear h
 replace H := qo H
 obtain ⟨⟨t560, t561, t562⟩, A2, H⟩ := H
 replace H : ((spec_l1Cur_anyPoly.f k l0 t561 t562 (wrap64 (1 + t560))).bind fun bt563 => ((spec_l1Cur_unknownOf.f l0 bt563.2.1 bt563.2.2).bind fun bt568 => (some (bt563.1, bt568.1)))) = some (r1, r2) := H
 replace H := qo H
 obtain ⟨⟨t563, t566, t567⟩, A3, H⟩ := H
 replace H : ((spec_l1Cur_unknownOf.f l0 t566 t567).bind fun bt568 => (some (t563, bt568.1))) = some (r1, r2) := H
 replace H := qo H
 obtain ⟨⟨t568, t569, t570⟩, A4, H⟩ := H
 replace H : (some (t563, t568)) = some (r1, r2) := H
 simp only [Option.some.injEq, Prod.mk.injEq] at H
 obtain ⟨rfl, rfl⟩ := H
 go_enter Tryz.func56, Tryz.ntmps56
 go_wp2_with (first | ((with_reducible refine gate_dst (N := 7) rfl ?_); refine zbe (N := 7) (cs := #[.slice A0 l0.length c0, .int .i64 0, .int .u64 0]) (t := 51) ?_; intro gb559 hg w5 hbox hb; have BK559 := qa (hbox); have GW559 := qa (zge (zb0 HB) hg); have GE559 := GW559; replace HB := qa (below_step (zb0 HB) hb); clear hb hbox hg; have HI559 : Aside0 (IsS51 w w5 gb559 l0 0 0) := ⟨⟨A0, c0, (zq1 BK559), GE559.out, HR0.out⟩⟩) | ((with_reducible refine gate_callee (f := 27) rfl ?_); refine qg 10 Tryz.func27 #[.pointer (some ⟨gb559, 0, none⟩), .int .i64 3] ?_; (with_reducible refine (spec_l1Cur_pick.calls gb559 l0 0 0 3 t560 t561 t562 w _ ?side1 ?side2 A2.out).mono ?_); (case side1 => exact z56_0 HI559); (case side2 => exact z56_1 HB); rintro e w6 ⟨rfl, hi, hb, hk⟩; refine ⟨_, rfl, ?_⟩; replace HB := qa (hb); replace HI559 := qa (hi); (try clear hb); (try clear hb2); (try clear hk); (try clear hi)) | ((with_reducible refine gate_callee (f := 26) rfl ?_); refine qg 12 Tryz.func26 #[.pointer (some ⟨gb559, 0, none⟩), .int .i64 (wrap64 (1 + t560))] ?_; (with_reducible refine (spec_l1Cur_anyPoly.calls k gb559 l0 t561 t562 (wrap64 (1 + t560)) t563 t566 t567 w _ ?side1 ?side2 A3.out).mono ?_); (case side1 => exact z56_0 HI559); (case side2 => exact z56_1 HB); rintro e w7 ⟨v564, rfl, ho0, hi, hb, hk⟩; refine ⟨_, rfl, ?_⟩; have HO565 := qa (Kd.R_lower ho0 (below_size (z56_1 HB))); replace HB := qa (hb); replace HI559 := qa (hi); (try clear hb); (try clear hb2); (try clear hk); (try clear hi); (try clear ho0)) | ((with_reducible refine gate_callee (f := 44) rfl ?_); refine qg 14 Tryz.func44 #[.pointer (some ⟨gb559, 0, none⟩)] ?_; (with_reducible refine (spec_l1Cur_unknownOf.calls gb559 l0 t566 t567 t568 t569 t570 w _ ?side1 ?side2 A4.out).mono ?_); (case side1 => exact z56_0 HI559); (case side2 => exact z56_1 HB); rintro e w8 ⟨rfl, hi, hb, hk⟩; refine ⟨_, rfl, ?_⟩; replace HO565 := qa (Kd.R_mono (Kd.R_keep (IsS51.apart (show IsS51 w _ gb559 l0 t566 t567 from (z56_0 HI559)) (zq3 HO565) (by decide)) hk (fun _ h => h.2)) (fun _ h => h.1)); replace HB := qa (hb); replace HI559 := qa (hi); (try clear hb); (try clear hb2); (try clear hk); (try clear hi)))
 go_ret2
 exact ⟨_, by first | rfl | (simp [errW_none, errW_some] <;> rfl) | (simp [*, errW_none, errW_some] <;> rfl), by (with_reducible repeat (first | apply Kd.R_alloc | apply Kd.R_drewN | apply Kd.R_drew)); exact HO565.out, (z56_1 HB)⟩
/-! ### spec_DrawDegreeIn: function 19 -/
set_option maxHeartbeats 8000000 in
set_option maxRecDepth 100000 in
theorem spec_DrawDegreeIn.calls (k : Nat) (A0 : Option Addr) (c0 : Nat) (l0 : List Int) (r1 : List (S62)) (r2 : Int) (w : World) (hr0 : Kd.C (Kd.int .u8) w A0 l0.length l0) (hc0 : l0.length ≤ c0) (h : spec_DrawDegreeIn.f k l0 = some (r1, r2)) :
  Calls Tryz.prog 19 #[.slice A0 l0.length c0] w fun e w' => ∃ v0_ : Value, e = .returned (.tuple #[v0_, .int .i64 r2]) ∧ Kd.R k62 62 w' w.heap.size (fun _ => True) v0_ r1 ∧ Below w.heap.size w w' := by
 have HR0 := qa hr0
 have HC0 := qa hc0
 clear hr0 hc0
 have HB := qa (Below.refl w.heap.size w)
 have H : ((spec_DrawDerivePoly.f k l0).bind fun bt571 => (some (bt571.1, bt571.2))) = some (r1, r2) := h
 clear h
 replace H := qo H
 obtain ⟨⟨t571, t572⟩, A2, H⟩ := H
 replace H : (some (t571, t572)) = some (r1, r2) := H
 simp only [Option.some.injEq, Prod.mk.injEq] at H
 obtain ⟨rfl, rfl⟩ := H
 go_enter Tryz.func19, Tryz.ntmps19
 go_wp2_with (first | ((with_reducible refine gate_callee (f := 56) rfl ?_); refine qg 5 Tryz.func56 #[.slice A0 l0.length c0] ?_; (with_reducible refine (spec_DrawDerivePoly.calls k _ _ l0 t571 t572 _ ?side1 ?side2 A2.out).mono ?_); (case side1 => repeat (first | exact HR0.out | (with_reducible refine Kd.C_alloc ?_ _) | (with_reducible refine Kd.C_drewN ?_ _) | (with_reducible refine Kd.C_drew ?_))); (case side2 => exact HC0.out); rintro e w3 ⟨v573, rfl, ho0, hb⟩; refine ⟨_, rfl, ?_⟩; have HO574 := qa (Kd.R_lower ho0 (below_size (zb0 HB))); replace HB := qa (below_step (zb0 HB) hb); (try clear hb); (try clear hb2); (try clear hk); (try clear hi); (try clear ho0)))
 go_ret2
 exact ⟨_, by first | rfl | (simp [errW_none, errW_some] <;> rfl) | (simp [*, errW_none, errW_some] <;> rfl), by (with_reducible repeat (first | apply Kd.R_alloc | apply Kd.R_drewN | apply Kd.R_drew)); exact HO574.out, (zb0 HB)⟩
/-! ### spec_DegreeIn: function 20 -/
set_option maxHeartbeats 8000000 in
set_option maxRecDepth 100000 in
theorem spec_DegreeIn.calls (k : Nat) (A0 : Option Addr) (c0 : Nat) (l0 : List (S62)) (a1 : Int) (r1 : Int) (r2 : Bool) (w : World) (hr0 : Kd.C k62 w A0 l0.length l0) (hc0 : l0.length ≤ c0) (h : spec_DegreeIn.f k l0 a1 = some (r1, r2)) :
  Calls Tryz.prog 20 #[.slice A0 l0.length c0, .int .i64 a1] w fun e w' => e = .returned (.tuple #[.int .i64 r1, .bool r2]) ∧ Below w.heap.size w w' := by
 have HR0 := qa hr0
 have HC0 := qa hc0
 clear hr0 hc0
 have HB := qa (Below.refl w.heap.size w)
 have H : ((spec_poGood.f k l0).bind fun t575 => (if t575 = true then ((spec_poUnknown.f a1).bind fun t576 => (if t576 = true then ((spec_poDegreeIn.f k l0 a1).bind fun t577 => (some (t577, true))) else (some (0, false)))) else (some (0, false)))) = some (r1, r2) := h
 clear h
 replace H := qo H
 obtain ⟨t575, A3, H⟩ := H
 replace H : (if t575 = true then ((spec_poUnknown.f a1).bind fun t576 => (if t576 = true then ((spec_poDegreeIn.f k l0 a1).bind fun t577 => (some (t577, true))) else (some (0, false)))) else (some (0, false))) = some (r1, r2) := H
 by_cases c4 : t575 = true
 ·
  subst c4
  have H1 : ((spec_poUnknown.f a1).bind fun t576 => (if t576 = true then ((spec_poDegreeIn.f k l0 a1).bind fun t577 => (some (t577, true))) else (some (0, false)))) = some (r1, r2) := by rw [if_pos rfl] at H; exact H
  clear H
  have H := H1
  clear H1
  replace H := qo H
  obtain ⟨t576, A5, H⟩ := H
  replace H : (if t576 = true then ((spec_poDegreeIn.f k l0 a1).bind fun t577 => (some (t577, true))) else (some (0, false))) = some (r1, r2) := H
  by_cases c6 : t576 = true
  ·
   subst c6
   have H1 : ((spec_poDegreeIn.f k l0 a1).bind fun t577 => (some (t577, true))) = some (r1, r2) := by rw [if_pos rfl] at H; exact H
   clear H
   have H := H1
   clear H1
   replace H := qo H
   obtain ⟨t577, A7, H⟩ := H
   replace H : (some (t577, true)) = some (r1, r2) := H
   simp only [Option.some.injEq, Prod.mk.injEq] at H
   obtain ⟨rfl, rfl⟩ := H
   go_enter Tryz.func20, Tryz.ntmps20
   go_wp2_with (first | ((with_reducible refine gate_callee (f := 38) rfl ?_); refine qg 7 Tryz.func38 #[.slice A0 l0.length c0] ?_; (with_reducible refine (spec_poGood.calls k _ _ l0 true _ ?side1 ?side2 A3.out).mono ?_); (case side1 => repeat (first | exact HR0.out | (with_reducible refine Kd.C_alloc ?_ _) | (with_reducible refine Kd.C_drewN ?_ _) | (with_reducible refine Kd.C_drew ?_))); (case side2 => exact HC0.out); rintro e w8 ⟨rfl, hb⟩; refine ⟨_, rfl, ?_⟩; replace HB := qa (below_step (zb0 HB) hb); (try clear hb); (try clear hb2); (try clear hk); (try clear hi)) | (go_at_call 48; (with_reducible refine (spec_poUnknown.calls a1 true _ A5.out).mono ?_); rintro e w' ⟨rfl, ⟨nd, rfl⟩⟩) | ((with_reducible refine gate_callee (f := 55) rfl ?_); refine qg 16 Tryz.func55 #[.slice A0 l0.length c0, .int .i64 a1] ?_; (with_reducible refine (spec_poDegreeIn.calls k _ _ l0 a1 t577 _ ?side1 ?side2 A7.out).mono ?_); (case side1 => repeat (first | exact (Kd.C_below HR0.out (zb0 HB)) | (with_reducible refine Kd.C_alloc ?_ _) | (with_reducible refine Kd.C_drewN ?_ _) | (with_reducible refine Kd.C_drew ?_))); (case side2 => exact HC0.out); rintro e w9 ⟨rfl, hb⟩; refine ⟨_, rfl, ?_⟩; replace HB := qa (below_step (zb0 HB) hb); (try clear hb); (try clear hb2); (try clear hk); (try clear hi)))
   go_ret2
   exact ⟨by first | rfl | (simp [errW_none, errW_some] <;> rfl) | (simp [*, errW_none, errW_some] <;> rfl), (zb0 HB)⟩
  ·
   replace c6 := Bool.eq_false_iff.mpr c6
   subst c6
   have H1 : (some (0, false)) = some (r1, r2) := by rw [if_neg (show ¬ (false = true) by decide)] at H; exact H
   clear H
   have H := H1
   clear H1
   simp only [Option.some.injEq, Prod.mk.injEq] at H
   obtain ⟨rfl, rfl⟩ := H
   go_enter Tryz.func20, Tryz.ntmps20
   go_wp2_with (first | ((with_reducible refine gate_callee (f := 38) rfl ?_); refine qg 7 Tryz.func38 #[.slice A0 l0.length c0] ?_; (with_reducible refine (spec_poGood.calls k _ _ l0 true _ ?side1 ?side2 A3.out).mono ?_); (case side1 => repeat (first | exact HR0.out | (with_reducible refine Kd.C_alloc ?_ _) | (with_reducible refine Kd.C_drewN ?_ _) | (with_reducible refine Kd.C_drew ?_))); (case side2 => exact HC0.out); rintro e w10 ⟨rfl, hb⟩; refine ⟨_, rfl, ?_⟩; replace HB := qa (below_step (zb0 HB) hb); (try clear hb); (try clear hb2); (try clear hk); (try clear hi)) | (go_at_call 48; (with_reducible refine (spec_poUnknown.calls a1 false _ A5.out).mono ?_); rintro e w' ⟨rfl, ⟨nd, rfl⟩⟩))
   go_ret2
   exact ⟨by first | rfl | (simp [errW_none, errW_some] <;> rfl) | (simp [*, errW_none, errW_some] <;> rfl), (zb0 HB)⟩
 ·
  replace c4 := Bool.eq_false_iff.mpr c4
  subst c4
  have H1 : (some (0, false)) = some (r1, r2) := by rw [if_neg (show ¬ (false = true) by decide)] at H; exact H
  clear H
  have H := H1
  clear H1
  simp only [Option.some.injEq, Prod.mk.injEq] at H
  obtain ⟨rfl, rfl⟩ := H
  go_enter Tryz.func20, Tryz.ntmps20
  go_wp2_with (first | ((with_reducible refine gate_callee (f := 38) rfl ?_); refine qg 7 Tryz.func38 #[.slice A0 l0.length c0] ?_; (with_reducible refine (spec_poGood.calls k _ _ l0 false _ ?side1 ?side2 A3.out).mono ?_); (case side1 => repeat (first | exact HR0.out | (with_reducible refine Kd.C_alloc ?_ _) | (with_reducible refine Kd.C_drewN ?_ _) | (with_reducible refine Kd.C_drew ?_))); (case side2 => exact HC0.out); rintro e w11 ⟨rfl, hb⟩; refine ⟨_, rfl, ?_⟩; replace HB := qa (below_step (zb0 HB) hb); (try clear hb); (try clear hb2); (try clear hk); (try clear hi)))
  go_ret2
  exact ⟨by first | rfl | (simp [errW_none, errW_some] <;> rfl) | (simp [*, errW_none, errW_some] <;> rfl), (zb0 HB)⟩
/-! ### spec_DrawIsPoly: function 57 -/
theorem z57_0 {P Q : Prop} (h : Aside0 (Q)) (f : Q → P := by intro h_; repeat (first | (with_reducible first | exact h_ | apply IsS51.alloc | apply IsS51.drewN | apply IsS51.drew | apply IsS51.set_1 | apply IsS51.set_2) | exact h_)) : P := f h.out
theorem z57_1 {w W0 W1 : World} {B : Nat} (h : Aside0 (Below B w W0)) (f : Below B w W0 → Below B w W1 := by intro h_; repeat (first | (with_reducible first | exact h_ | apply below_alloc | apply pw_below_drewN | apply below_drew1 | refine below_set ?_ (IsS51.ge (Aside0.out (by assumption)))) | exact h_)) : Below B w W1 := f h.out
set_option maxHeartbeats 8000000 in
set_option maxRecDepth 100000 in
theorem spec_DrawIsPoly.calls (k : Nat) (A0 : Option Addr) (c0 : Nat) (l0 : List Int) (r : List (S62)) (w : World) (hr0 : Kd.C (Kd.int .u8) w A0 l0.length l0) (hc0 : l0.length ≤ c0) (h : spec_DrawIsPoly.f k l0 = some r) :
  Calls Tryz.prog 57 #[.slice A0 l0.length c0] w fun e w' => ∃ v0_ : Value, e = .returned (v0_) ∧ Kd.R k62 62 w' w.heap.size (fun _ => True) v0_ r ∧ Below w.heap.size w w' := by
 have hu51 := Tryz.underlying51
 have HR0 := qa hr0
 have HC0 := qa hc0
 clear hr0 hc0
 have HB := qa (Below.refl w.heap.size w)
 have H : ((spec_l1Cur_pick.f l0 0 0 3).bind fun bt579 => ((spec_l1Cur_anyPoly.f k l0 bt579.2.1 bt579.2.2 (wrap64 (1 + bt579.1))).bind fun bt582 => (some bt582.1))) = some r := h
 clear h
 replace H := qo H
 obtain ⟨⟨t579, t580, t581⟩, A2, H⟩ := H
 replace H : ((spec_l1Cur_anyPoly.f k l0 t580 t581 (wrap64 (1 + t579))).bind fun bt582 => (some bt582.1)) = some r := H
 replace H := qo H
 obtain ⟨⟨t582, t585, t586⟩, A3, H⟩ := H
 replace H : (some t582) = some r := H
 obtain rfl := Option.some.inj H
 go_enter Tryz.func57, Tryz.ntmps57
 go_wp2_with (first | ((with_reducible refine gate_dst (N := 6) rfl ?_); refine zbe (N := 6) (cs := #[.slice A0 l0.length c0, .int .i64 0, .int .u64 0]) (t := 51) ?_; intro gb578 hg w4 hbox hb; have BK578 := qa (hbox); have GW578 := qa (zge (zb0 HB) hg); have GE578 := GW578; replace HB := qa (below_step (zb0 HB) hb); clear hb hbox hg; have HI578 : Aside0 (IsS51 w w4 gb578 l0 0 0) := ⟨⟨A0, c0, (zq1 BK578), GE578.out, HR0.out⟩⟩) | ((with_reducible refine gate_callee (f := 27) rfl ?_); refine qg 9 Tryz.func27 #[.pointer (some ⟨gb578, 0, none⟩), .int .i64 3] ?_; (with_reducible refine (spec_l1Cur_pick.calls gb578 l0 0 0 3 t579 t580 t581 w _ ?side1 ?side2 A2.out).mono ?_); (case side1 => exact z57_0 HI578); (case side2 => exact z57_1 HB); rintro e w5 ⟨rfl, hi, hb, hk⟩; refine ⟨_, rfl, ?_⟩; replace HB := qa (hb); replace HI578 := qa (hi); (try clear hb); (try clear hb2); (try clear hk); (try clear hi)) | ((with_reducible refine gate_callee (f := 26) rfl ?_); refine qg 11 Tryz.func26 #[.pointer (some ⟨gb578, 0, none⟩), .int .i64 (wrap64 (1 + t579))] ?_; (with_reducible refine (spec_l1Cur_anyPoly.calls k gb578 l0 t580 t581 (wrap64 (1 + t579)) t582 t585 t586 w _ ?side1 ?side2 A3.out).mono ?_); (case side1 => exact z57_0 HI578); (case side2 => exact z57_1 HB); rintro e w6 ⟨v583, rfl, ho0, hi, hb, hk⟩; refine ⟨_, rfl, ?_⟩; have HO584 := qa (Kd.R_lower ho0 (below_size (z57_1 HB))); replace HB := qa (hb); replace HI578 := qa (hi); (try clear hb); (try clear hb2); (try clear hk); (try clear hi); (try clear ho0)))
 go_ret
 exact ⟨_, by first | rfl | (simp [errW_none, errW_some] <;> rfl) | (simp [*, errW_none, errW_some] <;> rfl), by (with_reducible repeat (first | apply Kd.R_alloc | apply Kd.R_drewN | apply Kd.R_drew)); exact HO584.out, (z57_1 HB)⟩
/-! ### spec_DrawDegreeOf: function 21 -/
set_option maxHeartbeats 8000000 in
set_option maxRecDepth 100000 in
theorem spec_DrawDegreeOf.calls (k : Nat) (A0 : Option Addr) (c0 : Nat) (l0 : List Int) (r : List (S62)) (w : World) (hr0 : Kd.C (Kd.int .u8) w A0 l0.length l0) (hc0 : l0.length ≤ c0) (h : spec_DrawDegreeOf.f k l0 = some r) :
  Calls Tryz.prog 21 #[.slice A0 l0.length c0] w fun e w' => ∃ v0_ : Value, e = .returned (v0_) ∧ Kd.R k62 62 w' w.heap.size (fun _ => True) v0_ r ∧ Below w.heap.size w w' := by
 have HR0 := qa hr0
 have HC0 := qa hc0
 clear hr0 hc0
 have HB := qa (Below.refl w.heap.size w)
 have H : ((spec_DrawIsPoly.f k l0).bind fun t587 => (some t587)) = some r := h
 clear h
 replace H := qo H
 obtain ⟨t587, A2, H⟩ := H
 replace H : (some t587) = some r := H
 obtain rfl := Option.some.inj H
 go_enter Tryz.func21, Tryz.ntmps21
 go_wp2_with (first | ((with_reducible refine gate_callee (f := 57) rfl ?_); refine qg 4 Tryz.func57 #[.slice A0 l0.length c0] ?_; (with_reducible refine (spec_DrawIsPoly.calls k _ _ l0 t587 _ ?side1 ?side2 A2.out).mono ?_); (case side1 => repeat (first | exact HR0.out | (with_reducible refine Kd.C_alloc ?_ _) | (with_reducible refine Kd.C_drewN ?_ _) | (with_reducible refine Kd.C_drew ?_))); (case side2 => exact HC0.out); rintro e w3 ⟨v588, rfl, ho0, hb⟩; refine ⟨_, rfl, ?_⟩; have HO589 := qa (Kd.R_lower ho0 (below_size (zb0 HB))); replace HB := qa (below_step (zb0 HB) hb); (try clear hb); (try clear hb2); (try clear hk); (try clear hi); (try clear ho0)))
 go_ret
 exact ⟨_, by first | rfl | (simp [errW_none, errW_some] <;> rfl) | (simp [*, errW_none, errW_some] <;> rfl), by (with_reducible repeat (first | apply Kd.R_alloc | apply Kd.R_drewN | apply Kd.R_drew)); exact HO589.out, (zb0 HB)⟩
/-! ### impl_IsPoly: function 22 -/
set_option maxHeartbeats 8000000 in
set_option maxRecDepth 100000 in
theorem impl_IsPoly.calls (k : Nat) (A0 : Option Addr) (c0 : Nat) (l0 : List (S62)) (r : Bool) (w : World) (hr0 : Kd.C k62 w A0 l0.length l0) (hc0 : l0.length ≤ c0) (h : impl_IsPoly.f k l0 = some r) :
  Calls Tryz.prog 22 #[.slice A0 l0.length c0] w fun e w' => e = .returned (.bool r) ∧ Below w.heap.size w w' := by
 have HR0 := qa hr0
 have HC0 := qa hc0
 clear hr0 hc0
 have HB := qa (Below.refl w.heap.size w)
 have H : ((impl_isPoly.f k l0).bind fun t590 => (some t590)) = some r := h
 clear h
 replace H := qo H
 obtain ⟨t590, A2, H⟩ := H
 replace H : (some t590) = some r := H
 obtain rfl := Option.some.inj H
 go_enter Tryz.func22, Tryz.ntmps22
 go_wp2_with (first | ((with_reducible refine gate_callee (f := 30) rfl ?_); refine qg 4 Tryz.func30 #[.slice A0 l0.length c0] ?_; (with_reducible refine (impl_isPoly.calls k _ _ l0 t590 _ ?side1 ?side2 A2.out).mono ?_); (case side1 => repeat (first | exact HR0.out | (with_reducible refine Kd.C_alloc ?_ _) | (with_reducible refine Kd.C_drewN ?_ _) | (with_reducible refine Kd.C_drew ?_))); (case side2 => exact HC0.out); rintro e w3 ⟨rfl, hb⟩; refine ⟨_, rfl, ?_⟩; replace HB := qa (below_step (zb0 HB) hb); (try clear hb); (try clear hb2); (try clear hk); (try clear hi)))
 go_ret
 exact ⟨by first | rfl | (simp [errW_none, errW_some] <;> rfl) | (simp [*, errW_none, errW_some] <;> rfl), (zb0 HB)⟩
/-! ### spec_l1Cur_system: function 78 -/
theorem z78_0 {P Q : Prop} (h : Aside0 (Q)) (f : Q → P := by intro h_; repeat (first | (with_reducible first | exact h_ | apply IsS51.alloc | apply IsS51.drewN | apply IsS51.drew | apply IsS51.set_1 | apply IsS51.set_2) | exact h_)) : P := f h.out
theorem z78_1 {w W0 W1 : World} {g : Nat} {row : Option Nat} (h : Aside0 (KeepBut w W0 g row)) (f : KeepBut w W0 g row → KeepBut w W1 g row := by intro h_; repeat (first | (with_reducible first | exact h_ | apply KeepBut.set_ | apply keep_drewN | apply keep_drew | apply keep_alloc) | exact h_)) : KeepBut w W1 g row := f h.out
theorem z78_2 {w W0 W1 : World} {B : Nat} (h : Aside0 (Below B w W0)) (f : Below B w W0 → Below B w W1 := by intro h_; repeat (first | (with_reducible first | exact h_ | apply below_alloc | apply pw_below_drewN | apply below_drew1 | refine below_set ?_ (IsS51.ge (Aside0.out (by assumption)))) | exact h_)) : Below B w W1 := f h.out
set_option maxHeartbeats 8000000 in
set_option maxRecDepth 100000 in
theorem spec_l1Cur_system.calls (k : Nat) (g : Nat) (s0_0 : List Int) (s0_1 : Int) (s0_2 : Int) (a1 : Int) (r1 : List (List (S62))) (r2 : Int) (r3 : Int) (w0 w : World) (hI : IsS51 w0 w g s0_0 s0_1 s0_2) (hB : Below w0.heap.size w0 w) (h : spec_l1Cur_system.f k s0_0 s0_1 s0_2 a1 = some (r1, r2, r3)) :
  Calls Tryz.prog 78 #[.pointer (some ⟨g, 0, none⟩), .int .i64 a1] w fun e w' => ∃ v0_ : Value, e = .returned (v0_) ∧ Kd.S (Kd.slice 62 k62) 24 w' w.heap.size (fun _ => True) v0_ r1 ∧ IsS51 w0 w' g s0_0 r2 r3 ∧ Below w0.heap.size w0 w' ∧ KeepBut w w' g none := by
 have HI0 := qa hI
 have HK := qa (KeepBut.refl w g none)
 have HL := qa hB.size
 clear hI
 have HW0 := qa hB.size
 have HB := qa hB
 clear hB
 have H : (spec_l1Cur_system.l0 k a1 ([] : List (List (S62))) s0_0 s0_1 s0_2) = some (r1, r2, r3) := h
 clear h
 have H' := qa H
 clear H
 go_enter Tryz.func78, Tryz.ntmps78
 go_wp2
 go_loopg [5] k (fun kq v5 w' => ∃ (x5_1 : List (List (S62))) (x1001_1 : Int) (x1002_1 : Int), Aside0 (spec_l1Cur_system.l0 kq a1 x5_1 s0_0 x1001_1 x1002_1 = some (r1, r2, r3)) ∧ Aside0 (kq ≤ k) ∧ Aside0 (Kd.S (Kd.slice 62 k62) 24 w' w.heap.size (fun _ => True) v5 x5_1) ∧ Aside0 (IsS51 w0 w' g s0_0 x1001_1 x1002_1) ∧ Aside0 (KeepBut w w' g none) ∧ Aside0 (Below w0.heap.size w0 w'))
 case atStart => exact ⟨(([] : List (List (S62)))), (s0_1), (s0_2), H', ⟨Nat.le_refl _⟩, ⟨by first | exact Kd.S_nil _ _ _ _ _ | exact Kd.N_nil _ _ _ _ _ | exact Kd.V_nil _ _ _ _ _ | exact Kd.Q_nil _ _ _ _ _ | exact Kd.R_nil _ _ _ _ _⟩, ⟨(z78_0 HI0)⟩, ⟨(z78_1 HK)⟩, ⟨(z78_2 HB)⟩⟩
 case round =>
  clear H'
  try clear p2
  obtain ⟨x5_1, x1001_1, x1002_1, HA, HK1, HO_5, HI0, HK, HB⟩ := hrel
  cases gk with
  | zero => exact absurd HA.out (by simp [spec_l1Cur_system.l0])
  | succ k1 =>
   have H := HA.out
   clear HA
   simp only [spec_l1Cur_system.l0] at H
   by_cases c3 : (x5_1.length : Int) < a1
   ·
    rw [if_pos c3] at H
    have c3b0 := decide_eq_true c3
    clear c3
    replace H := qo H
    obtain ⟨⟨t591, t594, t595⟩, A4, H⟩ := H
    replace H : (if x5_1.length < 5864062014805 then (spec_l1Cur_system.l0 k1 a1 (x5_1 ++ [t591]) s0_0 t594 t595) else (none)) = some (r1, r2, r3) := H
    by_cases c5 : x5_1.length < 5864062014805
    ·
     rw [if_pos c5] at H
     have LMc5 := qa c5
     clear c5
     obtain ⟨y596, hy596⟩ : ∃ y_ : List (List (S62)), y_ = (x5_1 ++ [t591]) := ⟨_, rfl⟩
     replace H : (spec_l1Cur_system.l0 k1 a1 y596 s0_0 t594 t595) = some (r1, r2, r3) := by first | (rw [hy596]; with_reducible exact H) | (have H2_ := (Option.bind_some _ _).symm.trans H; rw [hy596]; with_reducible exact H2_) | (have H2_ := (Option.bind_some _ _).symm.trans H; with_reducible exact H2_) | with_reducible exact H | (rw [hy596]; exact H) | exact H
     have Ny596 := qa hy596
     clear hy596
     have H' := qa H
     clear H
     obtain ⟨Ao6, co6, eo6⟩ := Kd.S_slice HO_5.out
     subst eo6
     go_wp2_with (first | ((with_reducible refine gate_callee (f := 61) rfl ?_); refine qg 13 Tryz.func61 #[.pointer (some ⟨g, 0, none⟩), .int .i64 a1] ?_; (with_reducible refine (spec_l1Cur_poly.calls k1 g s0_0 x1001_1 x1002_1 a1 t591 t594 t595 w0 _ ?side1 ?side2 A4.out).mono ?_); (case side1 => exact z78_0 HI0); (case side2 => exact z78_2 HB); rintro e w7 ⟨v592, rfl, ho0, hi, hb, hk⟩; refine ⟨_, rfl, ?_⟩; have HO593 := qa (Kd.R_lower ho0 (keep_size (w := w) (g := g) (row := none) (z78_1 HK))); replace HO_5 := qa (Kd.S_mono (Kd.S_told (Kd.S_oldK (IsS51.apartS (show IsS51 w0 _ g s0_0 x1001_1 x1002_1 from (z78_0 HI0)) (by (with_reducible repeat (first | apply Kd.S_alloc | apply Kd.S_drewN | apply Kd.S_drew)); exact HO_5.out) (by decide)) hk) (Kd.R_base ho0)) (fun _ h_ => h_.1)); replace HK := qa (KeepBut.trans (z78_1 HK) hk (.inl rfl)); replace HB := qa (hb); replace HI0 := qa (hi); (try clear hb); (try clear hb2); (try clear hk); (try clear hi); (try clear ho0); obtain ⟨Ao9, co9, eo9⟩ := Kd.R_slice HO593.out; subst eo9) | ((with_reducible refine gate_builtin (b := .append) (xs := #[.tmp 10, .tmp 14]) rfl ?_); at_builtin; refine Kd.S_append (Kd.slice 62 k62) w.heap.size rfl (.tmp 10) (.tmp 14) 45 24 (.slice none 0 0) 24 rfl Tryz.underlying45 info24 rfl (by decide) (by omega) (.slice Ao6 x5_1.length co6) x5_1 t591 [.slice Ao9 t591.length co9] (fun _ => True) (fun k_ => some k_ = (.slice Ao9 t591.length co9 : Value).ownBlock) rfl rfl ?aP (fun k_ hk_ => ((Kd.R_mono (ok' := fun k_ => ((fun _ => True)) k_ ∧ some k_ ≠ (.slice Ao6 x5_1.length co6 : Value).ownBlock) (Kd.R_apart' (HO593.out) (Kd.S_typed HO_5.out) (by decide)) (fun k_ hk => ⟨trivial, hk.2⟩))).1 k_ hk_.symm) ?aF ?aO (Below.refl _ _) ?aS ?aL ?_; (case aP => exact Kd.M_row (Kd.R_mono (Kd.R_tight rfl (Kd.R_mono (ok' := fun k_ => ((fun _ => True)) k_ ∧ some k_ ≠ (.slice Ao6 x5_1.length co6 : Value).ownBlock) (Kd.R_apart' (HO593.out) (Kd.S_typed HO_5.out) (by decide)) (fun k_ hk => ⟨trivial, hk.2⟩))) (fun _ h_ => h_))); (case aF => exact (fun _ _ => trivial)); (case aO => exact (by (with_reducible repeat (first | apply Kd.S_alloc | apply Kd.S_drewN | apply Kd.S_drew)); exact Kd.S_mono HO_5.out (fun k_ hk => ⟨trivial, fun e_ => hk.2 e_⟩))); (case aS => exact (keep_size (w := w) (g := g) (row := none) (z78_1 HK))); (case aL => have := LMc5.out; omega); intro v597 w8 ho hb hg hat; rw [← Ny596.out] at ho; have HO598 := qa (ho); replace HI0 := qa (IsS51.grown (z78_0 HI0) hg (IsS51.own_neS HI0.out HO_5.out (by decide))); replace HB := qa (below_weaken (z78_2 HB) HL.out hb); replace HK := qa (KeepBut.trans (z78_1 HK) (KeepBut.of_grown hg g) (Kd.S_base2 HO_5.out)); clear HO_5 HO593; clear ho hb hg hat))
     go_roundg k1
     case measure => have := HK1.out; omega
     case rel => exact ⟨(y596), (t594), (t595), H', ⟨by have := HK1.out; omega⟩, ⟨by (with_reducible repeat (first | apply Kd.S_alloc | apply Kd.S_drewN | apply Kd.S_drew)); exact HO598.out⟩, ⟨(z78_0 HI0)⟩, ⟨(z78_1 HK)⟩, ⟨(z78_2 HB)⟩⟩
    ·
     rw [if_neg c5] at H
     exact absurd H (by simp)
   ·
    rw [if_neg c3] at H
    have c3b0 := decide_eq_false c3
    clear c3
    simp only [Option.some.injEq, Prod.mk.injEq] at H
    obtain ⟨rfl, rfl, rfl⟩ := H
    obtain ⟨Ao10, co10, eo10⟩ := Kd.S_slice HO_5.out
    subst eo10
    go_wp2
    go_ret
    exact ⟨_, by first | rfl | (simp [errW_none, errW_some] <;> rfl) | (simp [*, errW_none, errW_some] <;> rfl), by (with_reducible repeat (first | apply Kd.S_alloc | apply Kd.S_drewN | apply Kd.S_drew)); exact HO_5.out, (z78_0 HI0), (z78_2 HB), (z78_1 HK)⟩
/-! ### spec_l1Cur_anySystem: function 58 -/
theorem z58_0 {w W0 W1 : World} {g : Nat} {row : Option Nat} (h : Aside0 (KeepBut w W0 g row)) (f : KeepBut w W0 g row → KeepBut w W1 g row := by intro h_; repeat (first | (with_reducible first | exact h_ | apply KeepBut.set_ | apply keep_drewN | apply keep_drew | apply keep_alloc) | exact h_)) : KeepBut w W1 g row := f h.out
theorem z58_1 {P Q : Prop} (h : Aside0 (Q)) (f : Q → P := by intro h_; repeat (first | (with_reducible first | exact h_ | apply IsS51.alloc | apply IsS51.drewN | apply IsS51.drew | apply IsS51.set_1 | apply IsS51.set_2) | exact h_)) : P := f h.out
theorem z58_2 {w W0 W1 : World} {B : Nat} (h : Aside0 (Below B w W0)) (f : Below B w W0 → Below B w W1 := by intro h_; repeat (first | (with_reducible first | exact h_ | apply below_alloc | apply pw_below_drewN | apply below_drew1 | refine below_set ?_ (IsS51.ge (Aside0.out (by assumption)))) | exact h_)) : Below B w W1 := f h.out
set_option maxHeartbeats 8000000 in
set_option maxRecDepth 100000 in
theorem spec_l1Cur_anySystem.calls (k : Nat) (g : Nat) (s0_0 : List Int) (s0_1 : Int) (s0_2 : Int) (r1 : List (List (S62))) (r2 : Int) (r3 : Int) (w0 w : World) (hI : IsS51 w0 w g s0_0 s0_1 s0_2) (hB : Below w0.heap.size w0 w) (h : spec_l1Cur_anySystem.f k s0_0 s0_1 s0_2 = some (r1, r2, r3)) :
  Calls Tryz.prog 58 #[.pointer (some ⟨g, 0, none⟩)] w fun e w' => ∃ v0_ : Value, e = .returned (v0_) ∧ Kd.S (Kd.slice 62 k62) 24 w' w.heap.size (fun _ => True) v0_ r1 ∧ IsS51 w0 w' g s0_0 r2 r3 ∧ Below w0.heap.size w0 w' ∧ KeepBut w w' g none := by
 have HI0 := qa hI
 have HK := qa (KeepBut.refl w g none)
 have HL := qa hB.size
 clear hI
 have HW0 := qa hB.size
 have HB := qa hB
 clear hB
 have H : ((spec_l1Cur_among.f s0_0 s0_1 s0_2 (([1, 2, 2, 2, 3] : List Int))).bind fun bt602 => ((spec_l1Cur_system.f k s0_0 bt602.2.1 bt602.2.2 bt602.1).bind fun bt605 => ((spec_l1Cur_pick.f s0_0 bt605.2.1 bt605.2.2 30).bind fun bt610 => (if bt610.1 = 0 then ((spec_l1Cur_pick.f s0_0 bt610.2.1 bt610.2.2 bt602.1).bind fun bt613 => ((spec_l1Cur_anyPoly.f k s0_0 bt613.2.1 bt613.2.2 3).bind fun bt616 => (if 0 ≤ bt613.1 then (if bt613.1 < (bt605.1.length : Int) then (some ((bt605.1.set (bt613.1 : Int).toNat bt616.1), bt616.2.1, bt616.2.2)) else (none)) else (none)))) else (if bt610.1 = 1 then (some (([] : List (List (S62))), bt610.2.1, bt610.2.2)) else (if bt610.1 = 2 then ((spec_l1Cur_system.f k s0_0 bt610.2.1 bt610.2.2 4).bind fun bt622 => (some (bt622.1, bt622.2.1, bt622.2.2))) else (some (bt605.1, bt610.2.1, bt610.2.2)))))))) = some (r1, r2, r3) := h
 clear h
 obtain ⟨y599, hy599⟩ : ∃ y_ : List Int, y_ = (([1, 2, 2, 2, 3] : List Int)) := ⟨_, rfl⟩
 replace H : ((spec_l1Cur_among.f s0_0 s0_1 s0_2 y599).bind fun bt602 => ((spec_l1Cur_system.f k s0_0 bt602.2.1 bt602.2.2 bt602.1).bind fun bt605 => ((spec_l1Cur_pick.f s0_0 bt605.2.1 bt605.2.2 30).bind fun bt610 => (if bt610.1 = 0 then ((spec_l1Cur_pick.f s0_0 bt610.2.1 bt610.2.2 bt602.1).bind fun bt613 => ((spec_l1Cur_anyPoly.f k s0_0 bt613.2.1 bt613.2.2 3).bind fun bt616 => (if 0 ≤ bt613.1 then (if bt613.1 < (bt605.1.length : Int) then (some ((bt605.1.set (bt613.1 : Int).toNat bt616.1), bt616.2.1, bt616.2.2)) else (none)) else (none)))) else (if bt610.1 = 1 then (some (([] : List (List (S62))), bt610.2.1, bt610.2.2)) else (if bt610.1 = 2 then ((spec_l1Cur_system.f k s0_0 bt610.2.1 bt610.2.2 4).bind fun bt622 => (some (bt622.1, bt622.2.1, bt622.2.2))) else (some (bt605.1, bt610.2.1, bt610.2.2)))))))) = some (r1, r2, r3) := by first | (rw [hy599]; with_reducible exact H) | (have H2_ := (Option.bind_some _ _).symm.trans H; rw [hy599]; with_reducible exact H2_) | (have H2_ := (Option.bind_some _ _).symm.trans H; with_reducible exact H2_) | with_reducible exact H | (rw [hy599]; exact H) | exact H
 have Ny599 := qa hy599
 clear hy599
 replace H := qo H
 obtain ⟨⟨t602, t603, t604⟩, A2, H⟩ := H
 replace H : ((spec_l1Cur_system.f k s0_0 t603 t604 t602).bind fun bt605 => ((spec_l1Cur_pick.f s0_0 bt605.2.1 bt605.2.2 30).bind fun bt610 => (if bt610.1 = 0 then ((spec_l1Cur_pick.f s0_0 bt610.2.1 bt610.2.2 t602).bind fun bt613 => ((spec_l1Cur_anyPoly.f k s0_0 bt613.2.1 bt613.2.2 3).bind fun bt616 => (if 0 ≤ bt613.1 then (if bt613.1 < (bt605.1.length : Int) then (some ((bt605.1.set (bt613.1 : Int).toNat bt616.1), bt616.2.1, bt616.2.2)) else (none)) else (none)))) else (if bt610.1 = 1 then (some (([] : List (List (S62))), bt610.2.1, bt610.2.2)) else (if bt610.1 = 2 then ((spec_l1Cur_system.f k s0_0 bt610.2.1 bt610.2.2 4).bind fun bt622 => (some (bt622.1, bt622.2.1, bt622.2.2))) else (some (bt605.1, bt610.2.1, bt610.2.2))))))) = some (r1, r2, r3) := H
 replace H := qo H
 obtain ⟨⟨t605, t608, t609⟩, A3, H⟩ := H
 replace H : ((spec_l1Cur_pick.f s0_0 t608 t609 30).bind fun bt610 => (if bt610.1 = 0 then ((spec_l1Cur_pick.f s0_0 bt610.2.1 bt610.2.2 t602).bind fun bt613 => ((spec_l1Cur_anyPoly.f k s0_0 bt613.2.1 bt613.2.2 3).bind fun bt616 => (if 0 ≤ bt613.1 then (if bt613.1 < (t605.length : Int) then (some ((t605.set (bt613.1 : Int).toNat bt616.1), bt616.2.1, bt616.2.2)) else (none)) else (none)))) else (if bt610.1 = 1 then (some (([] : List (List (S62))), bt610.2.1, bt610.2.2)) else (if bt610.1 = 2 then ((spec_l1Cur_system.f k s0_0 bt610.2.1 bt610.2.2 4).bind fun bt622 => (some (bt622.1, bt622.2.1, bt622.2.2))) else (some (t605, bt610.2.1, bt610.2.2)))))) = some (r1, r2, r3) := H
 replace H := qo H
 obtain ⟨⟨t610, t611, t612⟩, A4, H⟩ := H
 replace H : (if t610 = 0 then ((spec_l1Cur_pick.f s0_0 t611 t612 t602).bind fun bt613 => ((spec_l1Cur_anyPoly.f k s0_0 bt613.2.1 bt613.2.2 3).bind fun bt616 => (if 0 ≤ bt613.1 then (if bt613.1 < (t605.length : Int) then (some ((t605.set (bt613.1 : Int).toNat bt616.1), bt616.2.1, bt616.2.2)) else (none)) else (none)))) else (if t610 = 1 then (some (([] : List (List (S62))), t611, t612)) else (if t610 = 2 then ((spec_l1Cur_system.f k s0_0 t611 t612 4).bind fun bt622 => (some (bt622.1, bt622.2.1, bt622.2.2))) else (some (t605, t611, t612))))) = some (r1, r2, r3) := H
 by_cases c5 : t610 = 0
 ·
  rw [if_pos c5] at H
  have c5b0 : (t610 == 0) = true := beq_iff_eq.mpr c5
  have c5b1 : (t610 != 0) = false := bne_eq_false_iff_eq.mpr c5
  clear c5
  replace H := qo H
  obtain ⟨⟨t613, t614, t615⟩, A6, H⟩ := H
  replace H : ((spec_l1Cur_anyPoly.f k s0_0 t614 t615 3).bind fun bt616 => (if 0 ≤ t613 then (if t613 < (t605.length : Int) then (some ((t605.set (t613 : Int).toNat bt616.1), bt616.2.1, bt616.2.2)) else (none)) else (none))) = some (r1, r2, r3) := H
  replace H := qo H
  obtain ⟨⟨t616, t619, t620⟩, A7, H⟩ := H
  replace H : (if 0 ≤ t613 then (if t613 < (t605.length : Int) then (some ((t605.set (t613 : Int).toNat t616), t619, t620)) else (none)) else (none)) = some (r1, r2, r3) := H
  by_cases c8 : 0 ≤ t613
  ·
   rw [if_pos c8] at H
   have c8b0 := decide_eq_true c8
   clear c8
   by_cases c9 : t613 < (t605.length : Int)
   ·
    rw [if_pos c9] at H
    have c9b0 := decide_eq_true c9
    clear c9
    obtain ⟨y621, hy621⟩ : ∃ y_ : List (List (S62)), y_ = (t605.set (t613 : Int).toNat t616) := ⟨_, rfl⟩
    replace H : (some (y621, t619, t620)) = some (r1, r2, r3) := by first | (rw [hy621]; with_reducible exact H) | (have H2_ := (Option.bind_some _ _).symm.trans H; rw [hy621]; with_reducible exact H2_) | (have H2_ := (Option.bind_some _ _).symm.trans H; with_reducible exact H2_) | with_reducible exact H | (rw [hy621]; exact H) | exact H
    have Ny621 := qa hy621
    clear hy621
    simp only [Option.some.injEq, Prod.mk.injEq] at H
    obtain ⟨rfl, rfl, rfl⟩ := H
    go_enter Tryz.func58, Tryz.ntmps58
    go_wp2_with (first | ((with_reducible refine gate_dst (N := 6) rfl ?_); refine Kd.R_lit (Kd.int .i64) _ 3 ?hg (N := 6) ?hd (xs := ([1, 2, 2, 2, 3] : List Int)) (inner := [.int .i64 1, .int .i64 2, .int .i64 2, .int .i64 2, .int .i64 3]) (ok := fun _ => True) (okp := fun _ => True) ?hr ?hp (fun _ hk => hk) trivial (Below.refl _ _) (Nat.le_refl _) (by simp) ?_; (case hd => rfl); (case hg => rfl); (case hr => first | (go_simp; done) | (go_simp; rfl)); (case hp => exact (Reps.one (show Kd.M (Kd.int .i64) _ _ _ 1 [.int .i64 1] from rfl) (Reps.one (show Kd.M (Kd.int .i64) _ _ _ 2 [.int .i64 2] from rfl) (Reps.one (show Kd.M (Kd.int .i64) _ _ _ 2 [.int .i64 2] from rfl) (Reps.one (show Kd.M (Kd.int .i64) _ _ _ 2 [.int .i64 2] from rfl) (Reps.one (show Kd.M (Kd.int .i64) _ _ _ 3 [.int .i64 3] from rfl) (Reps.none _ _))))))); intro v600 w11 ho12 hb hg_ hnew_; clear hg_ hnew_; (first | rw [← Ny599.out] at ho12 | (simp only [Int.reduceToNat] at ho12; rw [← Ny599.out] at ho12)); have HO601 := qa (Kd.R_lower ho12 (keep_size (w := w) (g := g) (row := none) (z58_0 HK))); replace HI0 := qa (IsS51.below (z58_1 HI0) hb); replace HK := qa (KeepBut.trans (z58_0 HK) (KeepBut.of_below hb g none) (.inl rfl)); replace HB := qa (below_step (z58_2 HB) hb); clear hb ho12; obtain ⟨Ao13, co13, eo13⟩ := Kd.R_slice HO601.out; subst eo13) | ((with_reducible refine gate_callee (f := 45) rfl ?_); refine qg 7 Tryz.func45 #[.pointer (some ⟨g, 0, none⟩), .slice Ao13 y599.length co13] ?_; (with_reducible refine (spec_l1Cur_among.calls g s0_0 s0_1 s0_2 _ _ y599 t602 t603 t604 w0 _ ?side1 ?side2 ?side3 ?side4 ?side5 A2.out).mono ?_); (case side1 => exact z58_1 HI0); (case side2 => exact z58_2 HB); (case side3 => repeat (first | exact (Kd.R_reads' HO601.out).2.2 | (with_reducible refine Kd.C_alloc ?_ _) | (with_reducible refine Kd.C_drewN ?_ _) | (with_reducible refine Kd.C_drew ?_))); (case side4 => exact (Kd.R_reads' HO601.out).2.1); (case side5 => exact far_slice (IsS51.own_ne HI0.out HO601.out (by decide))); rintro e w14 ⟨rfl, hi, hb, hk⟩; refine ⟨_, rfl, ?_⟩; replace HO601 := qa (Kd.R_mono (Kd.R_keep (IsS51.apart (show IsS51 w0 _ g s0_0 s0_1 s0_2 from (z58_1 HI0)) (zq3 HO601) (by decide)) hk (fun _ h => h.2)) (fun _ h => h.1)); replace HK := qa (KeepBut.trans (z58_0 HK) hk (.inl rfl)); replace HB := qa (hb); replace HI0 := qa (hi); (try clear hb); (try clear hb2); (try clear hk); (try clear hi)) | ((with_reducible refine gate_callee (f := 78) rfl ?_); refine qg 10 Tryz.func78 #[.pointer (some ⟨g, 0, none⟩), .int .i64 t602] ?_; (with_reducible refine (spec_l1Cur_system.calls k g s0_0 t603 t604 t602 t605 t608 t609 w0 _ ?side1 ?side2 A3.out).mono ?_); (case side1 => exact z58_1 HI0); (case side2 => exact z58_2 HB); rintro e w15 ⟨v606, rfl, ho0, hi, hb, hk⟩; refine ⟨_, rfl, ?_⟩; have HO607 := qa (Kd.S_lower ho0 (keep_size (w := w) (g := g) (row := none) (z58_0 HK))); replace HO601 := qa (Kd.R_mono (Kd.R_keep (IsS51.apart (show IsS51 w0 _ g s0_0 t603 t604 from (z58_1 HI0)) (zq3 HO601) (by decide)) hk (fun _ h => h.2)) (fun _ h => h.1)); replace HK := qa (KeepBut.trans (z58_0 HK) hk (.inl rfl)); replace HB := qa (hb); replace HI0 := qa (hi); (try clear hb); (try clear hb2); (try clear hk); (try clear hi); (try clear ho0)) | ((with_reducible refine gate_callee (f := 27) rfl ?_); refine qg 12 Tryz.func27 #[.pointer (some ⟨g, 0, none⟩), .int .i64 30] ?_; (with_reducible refine (spec_l1Cur_pick.calls g s0_0 t608 t609 30 t610 t611 t612 w0 _ ?side1 ?side2 A4.out).mono ?_); (case side1 => exact z58_1 HI0); (case side2 => exact z58_2 HB); rintro e w16 ⟨rfl, hi, hb, hk⟩; refine ⟨_, rfl, ?_⟩; replace HO601 := qa (Kd.R_mono (Kd.R_keep (IsS51.apart (show IsS51 w0 _ g s0_0 t608 t609 from (z58_1 HI0)) (zq3 HO601) (by decide)) hk (fun _ h => h.2)) (fun _ h => h.1)); replace HO607 := qa (Kd.S_mono (Kd.S_keep (IsS51.apartS (show IsS51 w0 _ g s0_0 t608 t609 from (z58_1 HI0)) (by (with_reducible repeat (first | apply Kd.S_alloc | apply Kd.S_drewN | apply Kd.S_drew)); exact HO607.out) (by decide)) hk (fun _ h => h.2)) (fun _ h => h.1)); replace HK := qa (KeepBut.trans (z58_0 HK) hk (.inl rfl)); replace HB := qa (hb); replace HI0 := qa (hi); (try clear hb); (try clear hb2); (try clear hk); (try clear hi)) | ((with_reducible refine gate_callee (f := 27) rfl ?_); refine qg 18 Tryz.func27 #[.pointer (some ⟨g, 0, none⟩), .int .i64 t602] ?_; (with_reducible refine (spec_l1Cur_pick.calls g s0_0 t611 t612 t602 t613 t614 t615 w0 _ ?side1 ?side2 A6.out).mono ?_); (case side1 => exact z58_1 HI0); (case side2 => exact z58_2 HB); rintro e w17 ⟨rfl, hi, hb, hk⟩; refine ⟨_, rfl, ?_⟩; replace HO601 := qa (Kd.R_mono (Kd.R_keep (IsS51.apart (show IsS51 w0 _ g s0_0 t611 t612 from (z58_1 HI0)) (zq3 HO601) (by decide)) hk (fun _ h => h.2)) (fun _ h => h.1)); replace HO607 := qa (Kd.S_mono (Kd.S_keep (IsS51.apartS (show IsS51 w0 _ g s0_0 t611 t612 from (z58_1 HI0)) (by (with_reducible repeat (first | apply Kd.S_alloc | apply Kd.S_drewN | apply Kd.S_drew)); exact HO607.out) (by decide)) hk (fun _ h => h.2)) (fun _ h => h.1)); replace HK := qa (KeepBut.trans (z58_0 HK) hk (.inl rfl)); replace HB := qa (hb); replace HI0 := qa (hi); (try clear hb); (try clear hb2); (try clear hk); (try clear hi)) | ((with_reducible refine gate_callee (f := 26) rfl ?_); refine qg 20 Tryz.func26 #[.pointer (some ⟨g, 0, none⟩), .int .i64 3] ?_; (with_reducible refine (spec_l1Cur_anyPoly.calls k g s0_0 t614 t615 3 t616 t619 t620 w0 _ ?side1 ?side2 A7.out).mono ?_); (case side1 => exact z58_1 HI0); (case side2 => exact z58_2 HB); rintro e w18 ⟨v617, rfl, ho0, hi, hb, hk⟩; refine ⟨_, rfl, ?_⟩; have HO618 := qa (Kd.R_lower ho0 (keep_size (w := w) (g := g) (row := none) (z58_0 HK))); replace HO601 := qa (Kd.R_mono (Kd.R_keep (IsS51.apart (show IsS51 w0 _ g s0_0 t614 t615 from (z58_1 HI0)) (zq3 HO601) (by decide)) hk (fun _ h => h.2)) (fun _ h => h.1)); replace HO607 := qa (Kd.S_mono (Kd.S_told (Kd.S_oldK (IsS51.apartS (show IsS51 w0 _ g s0_0 t614 t615 from (z58_1 HI0)) (by (with_reducible repeat (first | apply Kd.S_alloc | apply Kd.S_drewN | apply Kd.S_drew)); exact HO607.out) (by decide)) hk) (Kd.R_base ho0)) (fun _ h_ => h_.1)); replace HK := qa (KeepBut.trans (z58_0 HK) hk (.inl rfl)); replace HB := qa (hb); replace HI0 := qa (hi); (try clear hb); (try clear hb2); (try clear hk); (try clear hi); (try clear ho0); have p10 : 0 ≤ (t613 : Int) := qd; have q10 : (t613 : Int) < ((t605.length : Int) : Int) := qd; obtain ⟨go10, co10, eo10, gb10, gl10, cl10, HG10⟩ := Kd.S_form HO607.out (by omega); (first | cases eo10 | (injection eo10 with ea_ en_ ec_; (first | subst ea_ | (injection ea_ with ea_; subst ea_)); subst ec_; clear en_)); have GB10 := qa gb10; have GG10 := qa HG10; clear gb10 gl10 HG10; obtain ⟨_, ce10, hcl10, hM10, hcc10, hfr10, _, _⟩ := Kd.S_elem HO607.out [] (t613 : Int) p10 q10; obtain ⟨ve10_0, rfl, ge10_0⟩ := hM10; have hx10_0 := hcc10 0 _ rfl; have hf10_0 := hfr10 0; (try simp only [show ((Kd.slice 62 k62)).sz = 1 from rfl, Nat.mul_one, Nat.add_zero] at hx10_0); (try simp only [show ((Kd.slice 62 k62)).sz = 1 from rfl, Nat.mul_one, Nat.add_zero] at hf10_0); clear hcl10 hcc10 hfr10; (try clear hM10); replace p10 := eq_true p10; replace q10 := eq_true q10; have n_ := qa (Kd.S_mono (ok' := (fun k_ => some k_ ≠ (v617 : Value).ownBlock)) HO607.out (fun k_ hk => hk.2)); clear HO607; have HO607 := n_; clear n_; have HX19 := qa (show Kd.S (Kd.slice 62 k62) 24 w18 w.heap.size (fun k_ => ((fun _ => True)) k_ ∧ ¬ ((fun k_ => some k_ = (v617 : Value).ownBlock)) k_) (.slice (some ⟨go10, 0, none⟩) t605.length co10) t605 from (by (with_reducible repeat (first | apply Kd.S_alloc | apply Kd.S_drewN | apply Kd.S_drew)); exact Kd.S_mono HO607.out (fun k_ hk => ⟨trivial, fun e_ => hk e_⟩))); obtain ⟨oki19, ce19, hcl19, hM19, hcc19, hfr19, hoki19, hH19⟩ := Kd.S_elem HX19.out [] (t613 : Int) (qd) (by have h_ : (t613 : Int) < ((t605.length : Int) : Int) := qd; first | exact h_ | (have e_ := (Kd.S_reads' HO607.out).1; omega) | simpa using h_); obtain ⟨ve19_0, rfl, ge19_0⟩ := hM19; have HP19 := Kd.S_seg hH19 (qd) (by have h_ : (t613 : Int) < ((t605.length : Int) : Int) := qd; first | exact h_ | (have e_ := (Kd.S_reads' HO607.out).1; omega) | simpa using h_) (seg := [v617]) (j := 0) (show 1 ≤ 1 from by decide) (x' := t616) (Kd.M_row (Kd.R_mono (Kd.R_tight rfl (Kd.R_mono (ok' := fun k_ => ((fun _ => True)) k_ ∧ k_ ≠ go10) (Kd.R_apart' (HO618.out) (Kd.S_typed HO607.out) (by decide)) (fun k_ hk => ⟨trivial, fun e_ => (hk.2) (by rw [e_]; rfl)⟩))) (fun _ h_ => Or.inr (h_)))) (fun _ hk => hk) (fun k_ hk_ => ((Kd.R_mono (ok' := fun k_ => ((fun _ => True)) k_ ∧ k_ ≠ go10) (Kd.R_apart' (HO618.out) (Kd.S_typed HO607.out) (by decide)) (fun k_ hk => ⟨trivial, fun e_ => (hk.2) (by rw [e_]; rfl)⟩))).1 k_ hk_.symm); have hx19_0 := hcc19 0 _ rfl; (try simp only [show ((Kd.slice 62 k62)).sz = 1 from rfl, Nat.mul_one, Nat.add_zero] at hx19_0); have hf19_0 := hfr19 0; (try simp only [show ((Kd.slice 62 k62)).sz = 1 from rfl, Nat.mul_one, Nat.add_zero] at hf19_0); clear hcl19 hcc19 hfr19 hoki19 hH19; (try clear hM19); (try simp only [show ((Kd.slice 62 k62)).sz = 1 from rfl, Nat.mul_one, Nat.add_zero] at HP19)) | ((with_reducible refine gate_store (t := 24) (p := 21) rfl ?_); refine store_event (t := 24) (p := 21) (v := ?vo_w20) (w1 := (w18.setCell ⟨go10, (t613 : Int).toNat, none⟩ (v617))) ?hg ?ho ?hn ?hr ?_; (case ho => rfl); (case hg => rfl); (case hn => rfl); (case hr => obtain ⟨Av_, cv_, ev_⟩ := Kd.R_slice HO618.out; subst ev_; first | (go_simp; done) | (go_simp; rfl)); intro w20 hw; have hg : w18.grownBy w20 (some go10) := (by rw [hw]; exact HP19.2); have hp_ : Kd.S (Kd.slice 62 k62) 24 w20 w.heap.size (fun _ => True) (.slice (some ⟨go10, 0, none⟩) t605.length co10) y621 := (by rw [hw, Ny621.out]; exact HP19.1); clear HP19; replace HI0 := qa (IsS51.grown (z58_1 HI0) hg (IsS51.own_neS HI0.out HO607.out (by decide))); replace HO601 := qa (Kd.R_over' (v := (.slice (some ⟨go10, 0, none⟩) t605.length co10)) (zq3 HO601) (Kd.S_typed HO607.out) (by decide) hg); replace HB := qa ((by rw [hw]; exact below_set (HB.out) (Nat.le_trans HL.out GB10.out) : Below w0.heap.size w0 w20)); replace HK := qa (KeepBut.trans (z58_0 HK) (KeepBut.of_grown hg g) (Kd.S_base2 HO607.out)); replace HO607 := qa (hp_); clear HO618; clear hg hw hp_))
    go_ret
    exact ⟨_, by first | rfl | (simp [errW_none, errW_some] <;> rfl) | (simp [*, errW_none, errW_some] <;> rfl), by (with_reducible repeat (first | apply Kd.S_alloc | apply Kd.S_drewN | apply Kd.S_drew)); exact HO607.out, (z58_1 HI0), (z58_2 HB), (z58_0 HK)⟩
   ·
    rw [if_neg c9] at H
    exact absurd H (by simp)
  ·
   rw [if_neg c8] at H
   exact absurd H (by simp)
 ·
  rw [if_neg c5] at H
  have c5b0 : (t610 == 0) = false := beq_eq_false_iff_ne.mpr c5
  have c5b1 : (t610 != 0) = true := bne_iff_ne.mpr c5
  by_cases c21 : t610 = 1
  ·
   rw [if_pos c21] at H
   have c21b0 : (t610 == 1) = true := beq_iff_eq.mpr c21
   have c21b1 : (t610 != 1) = false := bne_eq_false_iff_eq.mpr c21
   clear c21
   simp only [Option.some.injEq, Prod.mk.injEq] at H
   obtain ⟨rfl, rfl, rfl⟩ := H
   go_enter Tryz.func58, Tryz.ntmps58
   go_wp2_with (first | ((with_reducible refine gate_dst (N := 6) rfl ?_); refine Kd.R_lit (Kd.int .i64) _ 3 ?hg (N := 6) ?hd (xs := ([1, 2, 2, 2, 3] : List Int)) (inner := [.int .i64 1, .int .i64 2, .int .i64 2, .int .i64 2, .int .i64 3]) (ok := fun _ => True) (okp := fun _ => True) ?hr ?hp (fun _ hk => hk) trivial (Below.refl _ _) (Nat.le_refl _) (by simp) ?_; (case hd => rfl); (case hg => rfl); (case hr => first | (go_simp; done) | (go_simp; rfl)); (case hp => exact (Reps.one (show Kd.M (Kd.int .i64) _ _ _ 1 [.int .i64 1] from rfl) (Reps.one (show Kd.M (Kd.int .i64) _ _ _ 2 [.int .i64 2] from rfl) (Reps.one (show Kd.M (Kd.int .i64) _ _ _ 2 [.int .i64 2] from rfl) (Reps.one (show Kd.M (Kd.int .i64) _ _ _ 2 [.int .i64 2] from rfl) (Reps.one (show Kd.M (Kd.int .i64) _ _ _ 3 [.int .i64 3] from rfl) (Reps.none _ _))))))); intro v600 w22 ho23 hb hg_ hnew_; clear hg_ hnew_; (first | rw [← Ny599.out] at ho23 | (simp only [Int.reduceToNat] at ho23; rw [← Ny599.out] at ho23)); have HO601 := qa (Kd.R_lower ho23 (keep_size (w := w) (g := g) (row := none) (z58_0 HK))); replace HI0 := qa (IsS51.below (z58_1 HI0) hb); replace HK := qa (KeepBut.trans (z58_0 HK) (KeepBut.of_below hb g none) (.inl rfl)); replace HB := qa (below_step (z58_2 HB) hb); clear hb ho23; obtain ⟨Ao24, co24, eo24⟩ := Kd.R_slice HO601.out; subst eo24) | ((with_reducible refine gate_callee (f := 45) rfl ?_); refine qg 7 Tryz.func45 #[.pointer (some ⟨g, 0, none⟩), .slice Ao24 y599.length co24] ?_; (with_reducible refine (spec_l1Cur_among.calls g s0_0 s0_1 s0_2 _ _ y599 t602 t603 t604 w0 _ ?side1 ?side2 ?side3 ?side4 ?side5 A2.out).mono ?_); (case side1 => exact z58_1 HI0); (case side2 => exact z58_2 HB); (case side3 => repeat (first | exact (Kd.R_reads' HO601.out).2.2 | (with_reducible refine Kd.C_alloc ?_ _) | (with_reducible refine Kd.C_drewN ?_ _) | (with_reducible refine Kd.C_drew ?_))); (case side4 => exact (Kd.R_reads' HO601.out).2.1); (case side5 => exact far_slice (IsS51.own_ne HI0.out HO601.out (by decide))); rintro e w25 ⟨rfl, hi, hb, hk⟩; refine ⟨_, rfl, ?_⟩; replace HO601 := qa (Kd.R_mono (Kd.R_keep (IsS51.apart (show IsS51 w0 _ g s0_0 s0_1 s0_2 from (z58_1 HI0)) (zq3 HO601) (by decide)) hk (fun _ h => h.2)) (fun _ h => h.1)); replace HK := qa (KeepBut.trans (z58_0 HK) hk (.inl rfl)); replace HB := qa (hb); replace HI0 := qa (hi); (try clear hb); (try clear hb2); (try clear hk); (try clear hi)) | ((with_reducible refine gate_callee (f := 78) rfl ?_); refine qg 10 Tryz.func78 #[.pointer (some ⟨g, 0, none⟩), .int .i64 t602] ?_; (with_reducible refine (spec_l1Cur_system.calls k g s0_0 t603 t604 t602 t605 t608 t609 w0 _ ?side1 ?side2 A3.out).mono ?_); (case side1 => exact z58_1 HI0); (case side2 => exact z58_2 HB); rintro e w26 ⟨v606, rfl, ho0, hi, hb, hk⟩; refine ⟨_, rfl, ?_⟩; have HO607 := qa (Kd.S_lower ho0 (keep_size (w := w) (g := g) (row := none) (z58_0 HK))); replace HO601 := qa (Kd.R_mono (Kd.R_keep (IsS51.apart (show IsS51 w0 _ g s0_0 t603 t604 from (z58_1 HI0)) (zq3 HO601) (by decide)) hk (fun _ h => h.2)) (fun _ h => h.1)); replace HK := qa (KeepBut.trans (z58_0 HK) hk (.inl rfl)); replace HB := qa (hb); replace HI0 := qa (hi); (try clear hb); (try clear hb2); (try clear hk); (try clear hi); (try clear ho0)) | ((with_reducible refine gate_callee (f := 27) rfl ?_); refine qg 12 Tryz.func27 #[.pointer (some ⟨g, 0, none⟩), .int .i64 30] ?_; (with_reducible refine (spec_l1Cur_pick.calls g s0_0 t608 t609 30 t610 t611 t612 w0 _ ?side1 ?side2 A4.out).mono ?_); (case side1 => exact z58_1 HI0); (case side2 => exact z58_2 HB); rintro e w27 ⟨rfl, hi, hb, hk⟩; refine ⟨_, rfl, ?_⟩; replace HO601 := qa (Kd.R_mono (Kd.R_keep (IsS51.apart (show IsS51 w0 _ g s0_0 t608 t609 from (z58_1 HI0)) (zq3 HO601) (by decide)) hk (fun _ h => h.2)) (fun _ h => h.1)); replace HO607 := qa (Kd.S_mono (Kd.S_keep (IsS51.apartS (show IsS51 w0 _ g s0_0 t608 t609 from (z58_1 HI0)) (by (with_reducible repeat (first | apply Kd.S_alloc | apply Kd.S_drewN | apply Kd.S_drew)); exact HO607.out) (by decide)) hk (fun _ h => h.2)) (fun _ h => h.1)); replace HK := qa (KeepBut.trans (z58_0 HK) hk (.inl rfl)); replace HB := qa (hb); replace HI0 := qa (hi); (try clear hb); (try clear hb2); (try clear hk); (try clear hi)))
   go_ret
   exact ⟨_, by first | rfl | (simp [errW_none, errW_some] <;> rfl) | (simp [*, errW_none, errW_some] <;> rfl), by first | exact Kd.S_nil _ _ _ _ _ | exact Kd.N_nil _ _ _ _ _ | exact Kd.V_nil _ _ _ _ _ | exact Kd.Q_nil _ _ _ _ _ | exact Kd.R_nil _ _ _ _ _, (z58_1 HI0), (z58_2 HB), (z58_0 HK)⟩
  ·
   rw [if_neg c21] at H
   have c21b0 : (t610 == 1) = false := beq_eq_false_iff_ne.mpr c21
   have c21b1 : (t610 != 1) = true := bne_iff_ne.mpr c21
   by_cases c28 : t610 = 2
   ·
    rw [if_pos c28] at H
    have c28b0 : (t610 == 2) = true := beq_iff_eq.mpr c28
    have c28b1 : (t610 != 2) = false := bne_eq_false_iff_eq.mpr c28
    clear c28
    replace H := qo H
    obtain ⟨⟨t622, t625, t626⟩, A29, H⟩ := H
    replace H : (some (t622, t625, t626)) = some (r1, r2, r3) := H
    simp only [Option.some.injEq, Prod.mk.injEq] at H
    obtain ⟨rfl, rfl, rfl⟩ := H
    go_enter Tryz.func58, Tryz.ntmps58
    go_wp2_with (first | ((with_reducible refine gate_dst (N := 6) rfl ?_); refine Kd.R_lit (Kd.int .i64) _ 3 ?hg (N := 6) ?hd (xs := ([1, 2, 2, 2, 3] : List Int)) (inner := [.int .i64 1, .int .i64 2, .int .i64 2, .int .i64 2, .int .i64 3]) (ok := fun _ => True) (okp := fun _ => True) ?hr ?hp (fun _ hk => hk) trivial (Below.refl _ _) (Nat.le_refl _) (by simp) ?_; (case hd => rfl); (case hg => rfl); (case hr => first | (go_simp; done) | (go_simp; rfl)); (case hp => exact (Reps.one (show Kd.M (Kd.int .i64) _ _ _ 1 [.int .i64 1] from rfl) (Reps.one (show Kd.M (Kd.int .i64) _ _ _ 2 [.int .i64 2] from rfl) (Reps.one (show Kd.M (Kd.int .i64) _ _ _ 2 [.int .i64 2] from rfl) (Reps.one (show Kd.M (Kd.int .i64) _ _ _ 2 [.int .i64 2] from rfl) (Reps.one (show Kd.M (Kd.int .i64) _ _ _ 3 [.int .i64 3] from rfl) (Reps.none _ _))))))); intro v600 w30 ho31 hb hg_ hnew_; clear hg_ hnew_; (first | rw [← Ny599.out] at ho31 | (simp only [Int.reduceToNat] at ho31; rw [← Ny599.out] at ho31)); have HO601 := qa (Kd.R_lower ho31 (keep_size (w := w) (g := g) (row := none) (z58_0 HK))); replace HI0 := qa (IsS51.below (z58_1 HI0) hb); replace HK := qa (KeepBut.trans (z58_0 HK) (KeepBut.of_below hb g none) (.inl rfl)); replace HB := qa (below_step (z58_2 HB) hb); clear hb ho31; obtain ⟨Ao32, co32, eo32⟩ := Kd.R_slice HO601.out; subst eo32) | ((with_reducible refine gate_callee (f := 45) rfl ?_); refine qg 7 Tryz.func45 #[.pointer (some ⟨g, 0, none⟩), .slice Ao32 y599.length co32] ?_; (with_reducible refine (spec_l1Cur_among.calls g s0_0 s0_1 s0_2 _ _ y599 t602 t603 t604 w0 _ ?side1 ?side2 ?side3 ?side4 ?side5 A2.out).mono ?_); (case side1 => exact z58_1 HI0); (case side2 => exact z58_2 HB); (case side3 => repeat (first | exact (Kd.R_reads' HO601.out).2.2 | (with_reducible refine Kd.C_alloc ?_ _) | (with_reducible refine Kd.C_drewN ?_ _) | (with_reducible refine Kd.C_drew ?_))); (case side4 => exact (Kd.R_reads' HO601.out).2.1); (case side5 => exact far_slice (IsS51.own_ne HI0.out HO601.out (by decide))); rintro e w33 ⟨rfl, hi, hb, hk⟩; refine ⟨_, rfl, ?_⟩; replace HO601 := qa (Kd.R_mono (Kd.R_keep (IsS51.apart (show IsS51 w0 _ g s0_0 s0_1 s0_2 from (z58_1 HI0)) (zq3 HO601) (by decide)) hk (fun _ h => h.2)) (fun _ h => h.1)); replace HK := qa (KeepBut.trans (z58_0 HK) hk (.inl rfl)); replace HB := qa (hb); replace HI0 := qa (hi); (try clear hb); (try clear hb2); (try clear hk); (try clear hi)) | ((with_reducible refine gate_callee (f := 78) rfl ?_); refine qg 10 Tryz.func78 #[.pointer (some ⟨g, 0, none⟩), .int .i64 t602] ?_; (with_reducible refine (spec_l1Cur_system.calls k g s0_0 t603 t604 t602 t605 t608 t609 w0 _ ?side1 ?side2 A3.out).mono ?_); (case side1 => exact z58_1 HI0); (case side2 => exact z58_2 HB); rintro e w34 ⟨v606, rfl, ho0, hi, hb, hk⟩; refine ⟨_, rfl, ?_⟩; have HO607 := qa (Kd.S_lower ho0 (keep_size (w := w) (g := g) (row := none) (z58_0 HK))); replace HO601 := qa (Kd.R_mono (Kd.R_keep (IsS51.apart (show IsS51 w0 _ g s0_0 t603 t604 from (z58_1 HI0)) (zq3 HO601) (by decide)) hk (fun _ h => h.2)) (fun _ h => h.1)); replace HK := qa (KeepBut.trans (z58_0 HK) hk (.inl rfl)); replace HB := qa (hb); replace HI0 := qa (hi); (try clear hb); (try clear hb2); (try clear hk); (try clear hi); (try clear ho0)) | ((with_reducible refine gate_callee (f := 27) rfl ?_); refine qg 12 Tryz.func27 #[.pointer (some ⟨g, 0, none⟩), .int .i64 30] ?_; (with_reducible refine (spec_l1Cur_pick.calls g s0_0 t608 t609 30 t610 t611 t612 w0 _ ?side1 ?side2 A4.out).mono ?_); (case side1 => exact z58_1 HI0); (case side2 => exact z58_2 HB); rintro e w35 ⟨rfl, hi, hb, hk⟩; refine ⟨_, rfl, ?_⟩; replace HO601 := qa (Kd.R_mono (Kd.R_keep (IsS51.apart (show IsS51 w0 _ g s0_0 t608 t609 from (z58_1 HI0)) (zq3 HO601) (by decide)) hk (fun _ h => h.2)) (fun _ h => h.1)); replace HO607 := qa (Kd.S_mono (Kd.S_keep (IsS51.apartS (show IsS51 w0 _ g s0_0 t608 t609 from (z58_1 HI0)) (by (with_reducible repeat (first | apply Kd.S_alloc | apply Kd.S_drewN | apply Kd.S_drew)); exact HO607.out) (by decide)) hk (fun _ h => h.2)) (fun _ h => h.1)); replace HK := qa (KeepBut.trans (z58_0 HK) hk (.inl rfl)); replace HB := qa (hb); replace HI0 := qa (hi); (try clear hb); (try clear hb2); (try clear hk); (try clear hi)) | ((with_reducible refine gate_callee (f := 78) rfl ?_); refine qg 27 Tryz.func78 #[.pointer (some ⟨g, 0, none⟩), .int .i64 4] ?_; (with_reducible refine (spec_l1Cur_system.calls k g s0_0 t611 t612 4 t622 t625 t626 w0 _ ?side1 ?side2 A29.out).mono ?_); (case side1 => exact z58_1 HI0); (case side2 => exact z58_2 HB); rintro e w36 ⟨v623, rfl, ho0, hi, hb, hk⟩; refine ⟨_, rfl, ?_⟩; have HO624 := qa (Kd.S_lower (Kd.S_new' ho0 (Kd.S_lt (by (with_reducible repeat (first | apply Kd.S_alloc | apply Kd.S_drewN | apply Kd.S_drew)); exact HO607.out))) (keep_size (w := w) (g := g) (row := none) (z58_0 HK))); replace HO601 := qa (Kd.R_mono (Kd.R_keep (IsS51.apart (show IsS51 w0 _ g s0_0 t611 t612 from (z58_1 HI0)) (zq3 HO601) (by decide)) hk (fun _ h => h.2)) (fun _ h => h.1)); replace HO607 := qa (Kd.S_mono (Kd.S_told (Kd.S_oldK (IsS51.apartS (show IsS51 w0 _ g s0_0 t611 t612 from (z58_1 HI0)) (by (with_reducible repeat (first | apply Kd.S_alloc | apply Kd.S_drewN | apply Kd.S_drew)); exact HO607.out) (by decide)) hk) (Kd.S_base ho0)) (fun _ h_ => h_.1)); replace HK := qa (KeepBut.trans (z58_0 HK) hk (.inl rfl)); replace HB := qa (hb); replace HI0 := qa (hi); (try clear hb); (try clear hb2); (try clear hk); (try clear hi); (try clear ho0)))
    go_ret
    exact ⟨_, by first | rfl | (simp [errW_none, errW_some] <;> rfl) | (simp [*, errW_none, errW_some] <;> rfl), by (with_reducible repeat (first | apply Kd.S_alloc | apply Kd.S_drewN | apply Kd.S_drew)); exact Kd.S_mono HO624.out (fun _ hk => trivial), (z58_1 HI0), (z58_2 HB), (z58_0 HK)⟩
   ·
    rw [if_neg c28] at H
    have c28b0 : (t610 == 2) = false := beq_eq_false_iff_ne.mpr c28
    have c28b1 : (t610 != 2) = true := bne_iff_ne.mpr c28
    simp only [Option.some.injEq, Prod.mk.injEq] at H
    obtain ⟨rfl, rfl, rfl⟩ := H
    go_enter Tryz.func58, Tryz.ntmps58
    go_wp2_with (first | ((with_reducible refine gate_dst (N := 6) rfl ?_); refine Kd.R_lit (Kd.int .i64) _ 3 ?hg (N := 6) ?hd (xs := ([1, 2, 2, 2, 3] : List Int)) (inner := [.int .i64 1, .int .i64 2, .int .i64 2, .int .i64 2, .int .i64 3]) (ok := fun _ => True) (okp := fun _ => True) ?hr ?hp (fun _ hk => hk) trivial (Below.refl _ _) (Nat.le_refl _) (by simp) ?_; (case hd => rfl); (case hg => rfl); (case hr => first | (go_simp; done) | (go_simp; rfl)); (case hp => exact (Reps.one (show Kd.M (Kd.int .i64) _ _ _ 1 [.int .i64 1] from rfl) (Reps.one (show Kd.M (Kd.int .i64) _ _ _ 2 [.int .i64 2] from rfl) (Reps.one (show Kd.M (Kd.int .i64) _ _ _ 2 [.int .i64 2] from rfl) (Reps.one (show Kd.M (Kd.int .i64) _ _ _ 2 [.int .i64 2] from rfl) (Reps.one (show Kd.M (Kd.int .i64) _ _ _ 3 [.int .i64 3] from rfl) (Reps.none _ _))))))); intro v600 w37 ho38 hb hg_ hnew_; clear hg_ hnew_; (first | rw [← Ny599.out] at ho38 | (simp only [Int.reduceToNat] at ho38; rw [← Ny599.out] at ho38)); have HO601 := qa (Kd.R_lower ho38 (keep_size (w := w) (g := g) (row := none) (z58_0 HK))); replace HI0 := qa (IsS51.below (z58_1 HI0) hb); replace HK := qa (KeepBut.trans (z58_0 HK) (KeepBut.of_below hb g none) (.inl rfl)); replace HB := qa (below_step (z58_2 HB) hb); clear hb ho38; obtain ⟨Ao39, co39, eo39⟩ := Kd.R_slice HO601.out; subst eo39) | ((with_reducible refine gate_callee (f := 45) rfl ?_); refine qg 7 Tryz.func45 #[.pointer (some ⟨g, 0, none⟩), .slice Ao39 y599.length co39] ?_; (with_reducible refine (spec_l1Cur_among.calls g s0_0 s0_1 s0_2 _ _ y599 t602 t603 t604 w0 _ ?side1 ?side2 ?side3 ?side4 ?side5 A2.out).mono ?_); (case side1 => exact z58_1 HI0); (case side2 => exact z58_2 HB); (case side3 => repeat (first | exact (Kd.R_reads' HO601.out).2.2 | (with_reducible refine Kd.C_alloc ?_ _) | (with_reducible refine Kd.C_drewN ?_ _) | (with_reducible refine Kd.C_drew ?_))); (case side4 => exact (Kd.R_reads' HO601.out).2.1); (case side5 => exact far_slice (IsS51.own_ne HI0.out HO601.out (by decide))); rintro e w40 ⟨rfl, hi, hb, hk⟩; refine ⟨_, rfl, ?_⟩; replace HO601 := qa (Kd.R_mono (Kd.R_keep (IsS51.apart (show IsS51 w0 _ g s0_0 s0_1 s0_2 from (z58_1 HI0)) (zq3 HO601) (by decide)) hk (fun _ h => h.2)) (fun _ h => h.1)); replace HK := qa (KeepBut.trans (z58_0 HK) hk (.inl rfl)); replace HB := qa (hb); replace HI0 := qa (hi); (try clear hb); (try clear hb2); (try clear hk); (try clear hi)) | ((with_reducible refine gate_callee (f := 78) rfl ?_); refine qg 10 Tryz.func78 #[.pointer (some ⟨g, 0, none⟩), .int .i64 t602] ?_; (with_reducible refine (spec_l1Cur_system.calls k g s0_0 t603 t604 t602 t605 t608 t609 w0 _ ?side1 ?side2 A3.out).mono ?_); (case side1 => exact z58_1 HI0); (case side2 => exact z58_2 HB); rintro e w41 ⟨v606, rfl, ho0, hi, hb, hk⟩; refine ⟨_, rfl, ?_⟩; have HO607 := qa (Kd.S_lower ho0 (keep_size (w := w) (g := g) (row := none) (z58_0 HK))); replace HO601 := qa (Kd.R_mono (Kd.R_keep (IsS51.apart (show IsS51 w0 _ g s0_0 t603 t604 from (z58_1 HI0)) (zq3 HO601) (by decide)) hk (fun _ h => h.2)) (fun _ h => h.1)); replace HK := qa (KeepBut.trans (z58_0 HK) hk (.inl rfl)); replace HB := qa (hb); replace HI0 := qa (hi); (try clear hb); (try clear hb2); (try clear hk); (try clear hi); (try clear ho0)) | ((with_reducible refine gate_callee (f := 27) rfl ?_); refine qg 12 Tryz.func27 #[.pointer (some ⟨g, 0, none⟩), .int .i64 30] ?_; (with_reducible refine (spec_l1Cur_pick.calls g s0_0 t608 t609 30 t610 t611 t612 w0 _ ?side1 ?side2 A4.out).mono ?_); (case side1 => exact z58_1 HI0); (case side2 => exact z58_2 HB); rintro e w42 ⟨rfl, hi, hb, hk⟩; refine ⟨_, rfl, ?_⟩; replace HO601 := qa (Kd.R_mono (Kd.R_keep (IsS51.apart (show IsS51 w0 _ g s0_0 t608 t609 from (z58_1 HI0)) (zq3 HO601) (by decide)) hk (fun _ h => h.2)) (fun _ h => h.1)); replace HO607 := qa (Kd.S_mono (Kd.S_keep (IsS51.apartS (show IsS51 w0 _ g s0_0 t608 t609 from (z58_1 HI0)) (by (with_reducible repeat (first | apply Kd.S_alloc | apply Kd.S_drewN | apply Kd.S_drew)); exact HO607.out) (by decide)) hk (fun _ h => h.2)) (fun _ h => h.1)); replace HK := qa (KeepBut.trans (z58_0 HK) hk (.inl rfl)); replace HB := qa (hb); replace HI0 := qa (hi); (try clear hb); (try clear hb2); (try clear hk); (try clear hi)))
    go_ret
    exact ⟨_, by first | rfl | (simp [errW_none, errW_some] <;> rfl) | (simp [*, errW_none, errW_some] <;> rfl), by (with_reducible repeat (first | apply Kd.S_alloc | apply Kd.S_drewN | apply Kd.S_drew)); exact HO607.out, (z58_1 HI0), (z58_2 HB), (z58_0 HK)⟩
/-! ### spec_DrawIsSystem: function 23 -/
theorem z23_0 {P Q : Prop} (h : Aside0 (Q)) (f : Q → P := by intro h_; repeat (first | (with_reducible first | exact h_ | apply IsS51.alloc | apply IsS51.drewN | apply IsS51.drew | apply IsS51.set_1 | apply IsS51.set_2) | exact h_)) : P := f h.out
theorem z23_1 {w W0 W1 : World} {B : Nat} (h : Aside0 (Below B w W0)) (f : Below B w W0 → Below B w W1 := by intro h_; repeat (first | (with_reducible first | exact h_ | apply below_alloc | apply pw_below_drewN | apply below_drew1 | refine below_set ?_ (IsS51.ge (Aside0.out (by assumption)))) | exact h_)) : Below B w W1 := f h.out
set_option maxHeartbeats 8000000 in
set_option maxRecDepth 100000 in
theorem spec_DrawIsSystem.calls (k : Nat) (A0 : Option Addr) (c0 : Nat) (l0 : List Int) (r : List (List (S62))) (w : World) (hr0 : Kd.C (Kd.int .u8) w A0 l0.length l0) (hc0 : l0.length ≤ c0) (h : spec_DrawIsSystem.f k l0 = some r) :
  Calls Tryz.prog 23 #[.slice A0 l0.length c0] w fun e w' => ∃ v0_ : Value, e = .returned (v0_) ∧ Kd.S (Kd.slice 62 k62) 24 w' w.heap.size (fun _ => True) v0_ r ∧ Below w.heap.size w w' := by
 have hu51 := Tryz.underlying51
 have HR0 := qa hr0
 have HC0 := qa hc0
 clear hr0 hc0
 have HB := qa (Below.refl w.heap.size w)
 have H : ((spec_l1Cur_anySystem.f k l0 0 0).bind fun bt628 => (some bt628.1)) = some r := h
 clear h
 replace H := qo H
 obtain ⟨⟨t628, t631, t632⟩, A2, H⟩ := H
 replace H : (some t628) = some r := H
 obtain rfl := Option.some.inj H
 go_enter Tryz.func23, Tryz.ntmps23
 go_wp2_with (first | ((with_reducible refine gate_dst (N := 6) rfl ?_); refine zbe (N := 6) (cs := #[.slice A0 l0.length c0, .int .i64 0, .int .u64 0]) (t := 51) ?_; intro gb627 hg w3 hbox hb; have BK627 := qa (hbox); have GW627 := qa (zge (zb0 HB) hg); have GE627 := GW627; replace HB := qa (below_step (zb0 HB) hb); clear hb hbox hg; have HI627 : Aside0 (IsS51 w w3 gb627 l0 0 0) := ⟨⟨A0, c0, (zq1 BK627), GE627.out, HR0.out⟩⟩) | ((with_reducible refine gate_callee (f := 58) rfl ?_); refine qg 8 Tryz.func58 #[.pointer (some ⟨gb627, 0, none⟩)] ?_; (with_reducible refine (spec_l1Cur_anySystem.calls k gb627 l0 0 0 t628 t631 t632 w _ ?side1 ?side2 A2.out).mono ?_); (case side1 => exact z23_0 HI627); (case side2 => exact z23_1 HB); rintro e w4 ⟨v629, rfl, ho0, hi, hb, hk⟩; refine ⟨_, rfl, ?_⟩; have HO630 := qa (Kd.S_lower ho0 (below_size (z23_1 HB))); replace HB := qa (hb); replace HI627 := qa (hi); (try clear hb); (try clear hb2); (try clear hk); (try clear hi); (try clear ho0)))
 go_ret
 exact ⟨_, by first | rfl | (simp [errW_none, errW_some] <;> rfl) | (simp [*, errW_none, errW_some] <;> rfl), by (with_reducible repeat (first | apply Kd.S_alloc | apply Kd.S_drewN | apply Kd.S_drew)); exact HO630.out, (z23_1 HB)⟩
/-! ### impl_isSystem: function 59 -/
set_option maxHeartbeats 8000000 in
set_option maxRecDepth 100000 in
theorem impl_isSystem.calls (k : Nat) (A0 : Option Addr) (c0 : Nat) (l0 : List (List (S62))) (r : Bool) (w : World) (hr0 : Kd.C (Kd.slice 62 k62) w A0 l0.length l0) (hc0 : l0.length ≤ c0) (h : impl_isSystem.f k l0 = some r) :
  Calls Tryz.prog 59 #[.slice A0 l0.length c0] w fun e w' => e = .returned (.bool r) ∧ Below w.heap.size w w' := by
 have HR0 := qa hr0
 have HC0 := qa hc0
 clear hr0 hc0
 have HB := qa (Below.refl w.heap.size w)
 have H : (impl_isSystem.l0 k l0 l0 (l0.length : Int) 0) = some r := h
 clear h
 have H' := qa H
 clear H
 go_enter Tryz.func59, Tryz.ntmps59
 go_wp2
 go_loopg [7] k (fun kq v7 w' => ∃ (x7_1 : Int), v7 = .int .i64 x7_1 ∧ Aside0 (impl_isSystem.l0 kq l0 l0 (l0.length : Int) x7_1 = some r) ∧ Aside0 (kq ≤ k) ∧ Aside0 (Below w.heap.size w w'))
 case atStart => exact ⟨(0), qf, H', ⟨Nat.le_refl _⟩, ⟨(zb0 HB)⟩⟩
 case round =>
  clear H'
  obtain ⟨x7_1, rfl, HA, HK1, HB⟩ := hrel
  cases gk with
  | zero => exact absurd HA.out (by simp [impl_isSystem.l0])
  | succ k1 =>
   have H := HA.out
   clear HA
   simp only [impl_isSystem.l0] at H
   by_cases c2 : x7_1 < (l0.length : Int)
   ·
    rw [if_pos c2] at H
    have c2b0 := decide_eq_true c2
    clear c2
    by_cases c3 : 0 ≤ x7_1
    ·
     rw [if_pos c3] at H
     have c3b0 := decide_eq_true c3
     clear c3
     by_cases c4 : x7_1 < (l0.length : Int)
     ·
      rw [if_pos c4] at H
      have c4b0 := decide_eq_true c4
      clear c4
      replace H := qo H
      obtain ⟨t635, A5, H⟩ := H
      replace H : (if t635 = true then ((impl_needsAtMost.f k1 (rd_L4 l0 x7_1) (l0.length : Int)).bind fun t636 => (if t636 = true then (impl_isSystem.l0 k1 l0 l0 (l0.length : Int) (wrap64 (x7_1 + 1))) else (some false))) else (some false)) = some r := H
      by_cases c6 : t635 = true
      ·
       subst c6
       have H1 : ((impl_needsAtMost.f k1 (rd_L4 l0 x7_1) (l0.length : Int)).bind fun t636 => (if t636 = true then (impl_isSystem.l0 k1 l0 l0 (l0.length : Int) (wrap64 (x7_1 + 1))) else (some false))) = some r := by rw [if_pos rfl] at H; exact H
       clear H
       have H := H1
       clear H1
       replace H := qo H
       obtain ⟨t636, A7, H⟩ := H
       replace H : (if t636 = true then (impl_isSystem.l0 k1 l0 l0 (l0.length : Int) (wrap64 (x7_1 + 1))) else (some false)) = some r := H
       by_cases c8 : t636 = true
       ·
        subst c8
        have H1 : (impl_isSystem.l0 k1 l0 l0 (l0.length : Int) (wrap64 (x7_1 + 1))) = some r := by rw [if_pos rfl] at H; exact H
        clear H
        have H := H1
        clear H1
        have H' := qa H
        clear H
        have p634 : 0 ≤ (x7_1 : Int) := qd
        have q634 : x7_1 < (l0.length : Int) := qd
        obtain ⟨ad634, A634_0, c634_0, e634, hx634_0, hl634_0, hi634_0⟩ := at_L4 HR0.out x7_1 p634 q634
        cases e634
        replace hx634_0 := qb HB hx634_0
        have HR634_0 := qa hi634_0
        have HC634_0 := qa hl634_0
        clear hi634_0 hl634_0
        replace p634 := eq_true p634
        replace q634 := eq_true q634
        go_wp2_with (first | ((with_reducible refine gate_callee (f := 30) rfl ?_); refine qg 12 Tryz.func30 #[.slice A634_0 (rd_L4 l0 x7_1).length c634_0] ?_; (with_reducible refine (impl_isPoly.calls k1 _ _ (rd_L4 l0 x7_1) true _ ?side1 ?side2 A5.out).mono ?_); (case side1 => repeat (first | exact (Kd.C_below HR634_0.out HB.out) | (with_reducible refine Kd.C_alloc ?_ _) | (with_reducible refine Kd.C_drewN ?_ _) | (with_reducible refine Kd.C_drew ?_))); (case side2 => exact HC634_0.out); rintro e w9 ⟨rfl, hb⟩; refine ⟨_, rfl, ?_⟩; replace HB := qa (below_step (zb0 HB) hb); (try clear hb); (try clear hb2); (try clear hk); (try clear hi)) | (go_at_call 79; (with_reducible refine (impl_needsAtMost.calls k1 _ _ (rd_L4 l0 x7_1) (l0.length : Int) true _ ?side1 ?side2 A7.out).mono ?_); (case side1 => repeat (first | exact (Kd.C_below HR634_0.out HB.out) | (with_reducible refine Kd.C_alloc ?_ _) | (with_reducible refine Kd.C_drewN ?_ _) | (with_reducible refine Kd.C_drew ?_))); (case side2 => exact HC634_0.out); rintro e w10 ⟨rfl, hb⟩; replace HB := qa (below_step (zb0 HB) hb); (try clear hb); (try clear hb2); (try clear hk); (try clear hi)))
        go_roundg k1
        case measure => have := HK1.out; omega
        case rel => exact ⟨(wrap64 (x7_1 + 1)), qf, H', ⟨by have := HK1.out; omega⟩, ⟨(zb0 HB)⟩⟩
       ·
        replace c8 := Bool.eq_false_iff.mpr c8
        subst c8
        have H1 : (some false) = some r := by rw [if_neg (show ¬ (false = true) by decide)] at H; exact H
        clear H
        have H := H1
        clear H1
        obtain rfl := Option.some.inj H
        have p634 : 0 ≤ (x7_1 : Int) := qd
        have q634 : x7_1 < (l0.length : Int) := qd
        obtain ⟨ad634, A634_0, c634_0, e634, hx634_0, hl634_0, hi634_0⟩ := at_L4 HR0.out x7_1 p634 q634
        cases e634
        replace hx634_0 := qb HB hx634_0
        have HR634_0 := qa hi634_0
        have HC634_0 := qa hl634_0
        clear hi634_0 hl634_0
        replace p634 := eq_true p634
        replace q634 := eq_true q634
        go_wp2_with (first | ((with_reducible refine gate_callee (f := 30) rfl ?_); refine qg 12 Tryz.func30 #[.slice A634_0 (rd_L4 l0 x7_1).length c634_0] ?_; (with_reducible refine (impl_isPoly.calls k1 _ _ (rd_L4 l0 x7_1) true _ ?side1 ?side2 A5.out).mono ?_); (case side1 => repeat (first | exact (Kd.C_below HR634_0.out HB.out) | (with_reducible refine Kd.C_alloc ?_ _) | (with_reducible refine Kd.C_drewN ?_ _) | (with_reducible refine Kd.C_drew ?_))); (case side2 => exact HC634_0.out); rintro e w11 ⟨rfl, hb⟩; refine ⟨_, rfl, ?_⟩; replace HB := qa (below_step (zb0 HB) hb); (try clear hb); (try clear hb2); (try clear hk); (try clear hi)) | (go_at_call 79; (with_reducible refine (impl_needsAtMost.calls k1 _ _ (rd_L4 l0 x7_1) (l0.length : Int) false _ ?side1 ?side2 A7.out).mono ?_); (case side1 => repeat (first | exact (Kd.C_below HR634_0.out HB.out) | (with_reducible refine Kd.C_alloc ?_ _) | (with_reducible refine Kd.C_drewN ?_ _) | (with_reducible refine Kd.C_drew ?_))); (case side2 => exact HC634_0.out); rintro e w12 ⟨rfl, hb⟩; replace HB := qa (below_step (zb0 HB) hb); (try clear hb); (try clear hb2); (try clear hk); (try clear hi)))
        go_ret
        exact ⟨by first | rfl | (simp [errW_none, errW_some] <;> rfl) | (simp [*, errW_none, errW_some] <;> rfl), (zb0 HB)⟩
      ·
       replace c6 := Bool.eq_false_iff.mpr c6
       subst c6
       have H1 : (some false) = some r := by rw [if_neg (show ¬ (false = true) by decide)] at H; exact H
       clear H
       have H := H1
       clear H1
       obtain rfl := Option.some.inj H
       have p634 : 0 ≤ (x7_1 : Int) := qd
       have q634 : x7_1 < (l0.length : Int) := qd
       obtain ⟨ad634, A634_0, c634_0, e634, hx634_0, hl634_0, hi634_0⟩ := at_L4 HR0.out x7_1 p634 q634
       cases e634
       replace hx634_0 := qb HB hx634_0
       have HR634_0 := qa hi634_0
       have HC634_0 := qa hl634_0
       clear hi634_0 hl634_0
       replace p634 := eq_true p634
       replace q634 := eq_true q634
       go_wp2_with (first | ((with_reducible refine gate_callee (f := 30) rfl ?_); refine qg 12 Tryz.func30 #[.slice A634_0 (rd_L4 l0 x7_1).length c634_0] ?_; (with_reducible refine (impl_isPoly.calls k1 _ _ (rd_L4 l0 x7_1) false _ ?side1 ?side2 A5.out).mono ?_); (case side1 => repeat (first | exact (Kd.C_below HR634_0.out HB.out) | (with_reducible refine Kd.C_alloc ?_ _) | (with_reducible refine Kd.C_drewN ?_ _) | (with_reducible refine Kd.C_drew ?_))); (case side2 => exact HC634_0.out); rintro e w13 ⟨rfl, hb⟩; refine ⟨_, rfl, ?_⟩; replace HB := qa (below_step (zb0 HB) hb); (try clear hb); (try clear hb2); (try clear hk); (try clear hi)))
       go_ret
       exact ⟨by first | rfl | (simp [errW_none, errW_some] <;> rfl) | (simp [*, errW_none, errW_some] <;> rfl), (zb0 HB)⟩
     ·
      rw [if_neg c4] at H
      exact absurd H (by simp)
    ·
     rw [if_neg c3] at H
     exact absurd H (by simp)
   ·
    rw [if_neg c2] at H
    have c2b0 := decide_eq_false c2
    clear c2
    replace H := qo H
    obtain ⟨t633, A14, H⟩ := H
    replace H : (some t633) = some r := H
    obtain rfl := Option.some.inj H
    go_wp2_with (first | ((with_reducible refine gate_callee (f := 47) rfl ?_); refine qg 24 Tryz.func47 #[.int .i64 (l0.length : Int), .int .i64 1, .int .i64 3] ?_; (with_reducible refine (impl_inside.calls (l0.length : Int) 1 3 t633 _ A14.out).mono ?_); rintro e w' ⟨rfl, ⟨nd, rfl⟩⟩; refine ⟨_, rfl, ?_⟩))
    go_ret
    exact ⟨by first | rfl | (simp [errW_none, errW_some] <;> rfl) | (simp [*, errW_none, errW_some] <;> rfl), (zb0 HB)⟩
/-! ### impl_IsSystem: function 24 -/
set_option maxHeartbeats 8000000 in
set_option maxRecDepth 100000 in
theorem impl_IsSystem.calls (k : Nat) (A0 : Option Addr) (c0 : Nat) (l0 : List (List (S62))) (r : Bool) (w : World) (hr0 : Kd.C (Kd.slice 62 k62) w A0 l0.length l0) (hc0 : l0.length ≤ c0) (h : impl_IsSystem.f k l0 = some r) :
  Calls Tryz.prog 24 #[.slice A0 l0.length c0] w fun e w' => e = .returned (.bool r) ∧ Below w.heap.size w w' := by
 have HR0 := qa hr0
 have HC0 := qa hc0
 clear hr0 hc0
 have HB := qa (Below.refl w.heap.size w)
 have H : ((impl_isSystem.f k l0).bind fun t637 => (some t637)) = some r := h
 clear h
 replace H := qo H
 obtain ⟨t637, A2, H⟩ := H
 replace H : (some t637) = some r := H
 obtain rfl := Option.some.inj H
 go_enter Tryz.func24, Tryz.ntmps24
 go_wp2_with (first | ((with_reducible refine gate_callee (f := 59) rfl ?_); refine qg 4 Tryz.func59 #[.slice A0 l0.length c0] ?_; (with_reducible refine (impl_isSystem.calls k _ _ l0 t637 _ ?side1 ?side2 A2.out).mono ?_); (case side1 => repeat (first | exact HR0.out | (with_reducible refine Kd.C_alloc ?_ _) | (with_reducible refine Kd.C_drewN ?_ _) | (with_reducible refine Kd.C_drew ?_))); (case side2 => exact HC0.out); rintro e w3 ⟨rfl, hb⟩; refine ⟨_, rfl, ?_⟩; replace HB := qa (below_step (zb0 HB) hb); (try clear hb); (try clear hb2); (try clear hk); (try clear hi)))
 go_ret
 exact ⟨by first | rfl | (simp [errW_none, errW_some] <;> rfl) | (simp [*, errW_none, errW_some] <;> rfl), (zb0 HB)⟩
/-! ### spec_poSystem: function 60 -/
set_option maxHeartbeats 8000000 in
set_option maxRecDepth 100000 in
theorem spec_poSystem.calls (k : Nat) (A0 : Option Addr) (c0 : Nat) (l0 : List (List (S62))) (r : Bool) (w : World) (hr0 : Kd.C (Kd.slice 62 k62) w A0 l0.length l0) (hc0 : l0.length ≤ c0) (h : spec_poSystem.f k l0 = some r) :
  Calls Tryz.prog 60 #[.slice A0 l0.length c0] w fun e w' => e = .returned (.bool r) ∧ Below w.heap.size w w' := by
 have HR0 := qa hr0
 have HC0 := qa hc0
 clear hr0 hc0
 have HB := qa (Below.refl w.heap.size w)
 have H : (spec_poSystem.l0 k l0 l0 (l0.length : Int) 0) = some r := h
 clear h
 have H' := qa H
 clear H
 go_enter Tryz.func60, Tryz.ntmps60
 go_wp2
 go_loopg [8] k (fun kq v8 w' => ∃ (x8_1 : Int), v8 = .int .i64 x8_1 ∧ Aside0 (spec_poSystem.l0 kq l0 l0 (l0.length : Int) x8_1 = some r) ∧ Aside0 (kq ≤ k) ∧ Aside0 (Below w.heap.size w w'))
 case atStart => exact ⟨(0), qf, H', ⟨Nat.le_refl _⟩, ⟨(zb0 HB)⟩⟩
 case round =>
  clear H'
  obtain ⟨x8_1, rfl, HA, HK1, HB⟩ := hrel
  cases gk with
  | zero => exact absurd HA.out (by simp [spec_poSystem.l0])
  | succ k1 =>
   have H := HA.out
   clear HA
   simp only [spec_poSystem.l0] at H
   by_cases c2 : x8_1 < (l0.length : Int)
   ·
    rw [if_pos c2] at H
    have c2b0 := decide_eq_true c2
    clear c2
    by_cases c3 : 0 ≤ x8_1
    ·
     rw [if_pos c3] at H
     have c3b0 := decide_eq_true c3
     clear c3
     by_cases c4 : x8_1 < (l0.length : Int)
     ·
      rw [if_pos c4] at H
      have c4b0 := decide_eq_true c4
      clear c4
      replace H := qo H
      obtain ⟨t640, A5, H⟩ := H
      replace H : (if t640 = true then (spec_poSystem.l1 k1 l0 (rd_L4 l0 x8_1) (l0.length : Int) l0 (l0.length : Int) x8_1) else (some false)) = some r := H
      by_cases c6 : t640 = true
      ·
       subst c6
       have H1 : (spec_poSystem.l1 k1 l0 (rd_L4 l0 x8_1) (l0.length : Int) l0 (l0.length : Int) x8_1) = some r := by rw [if_pos rfl] at H; exact H
       clear H
       have H := H1
       clear H1
       have H' := qa H
       clear H
       have p639 : 0 ≤ (x8_1 : Int) := qd
       have q639 : x8_1 < (l0.length : Int) := qd
       obtain ⟨ad639, A639_0, c639_0, e639, hx639_0, hl639_0, hi639_0⟩ := at_L4 HR0.out x8_1 p639 q639
       cases e639
       replace hx639_0 := qb HB hx639_0
       have HR639_0 := qa hi639_0
       have HC639_0 := qa hl639_0
       clear hi639_0 hl639_0
       replace p639 := eq_true p639
       replace q639 := eq_true q639
       go_wp2_with (first | ((with_reducible refine gate_callee (f := 38) rfl ?_); refine qg 13 Tryz.func38 #[.slice A639_0 (rd_L4 l0 x8_1).length c639_0] ?_; (with_reducible refine (spec_poGood.calls k1 _ _ (rd_L4 l0 x8_1) true _ ?side1 ?side2 A5.out).mono ?_); (case side1 => repeat (first | exact (Kd.C_below HR639_0.out HB.out) | (with_reducible refine Kd.C_alloc ?_ _) | (with_reducible refine Kd.C_drewN ?_ _) | (with_reducible refine Kd.C_drew ?_))); (case side2 => exact HC639_0.out); rintro e w7 ⟨rfl, hb⟩; refine ⟨_, rfl, ?_⟩; replace HB := qa (below_step (zb0 HB) hb); (try clear hb); (try clear hb2); (try clear hk); (try clear hi)))
       go_loopg [5] k1 (fun kq v5 w' => ∃ (x5_2 : Int), v5 = .int .i64 x5_2 ∧ Aside0 (spec_poSystem.l1 kq l0 (rd_L4 l0 x8_1) x5_2 l0 (l0.length : Int) x8_1 = some r) ∧ Aside0 (kq ≤ k1) ∧ Aside0 (Below w.heap.size w w'))
       case atStart => exact ⟨((l0.length : Int)), qf, H', ⟨Nat.le_refl _⟩, ⟨(zb0 HB)⟩⟩
       case round =>
        clear H'
        try clear c2
        try clear c2b0
        try clear p2
        try clear c3
        try clear c3b0
        try clear c4
        try clear c4b0
        try clear c6
        try clear p6
        try clear q6
        try clear hx6
        try clear hx639_0
        try clear p639
        try clear q639
        obtain ⟨x5_2, rfl, HA, HK2, HB⟩ := hrel
        cases gk with
        | zero => exact absurd HA.out (by simp [spec_poSystem.l1])
        | succ k2 =>
         have H := HA.out
         clear HA
         simp only [spec_poSystem.l1] at H
         by_cases c8 : x5_2 < 3
         ·
          rw [if_pos c8] at H
          have c8b0 := decide_eq_true c8
          clear c8
          replace H := qo H
          obtain ⟨t641, A9, H⟩ := H
          replace H : (if t641 > 0 then (some false) else (spec_poSystem.l1 k2 l0 (rd_L4 l0 x8_1) (wrap64 (x5_2 + 1)) l0 (l0.length : Int) x8_1)) = some r := H
          by_cases c10 : t641 > 0
          ·
           rw [if_pos c10] at H
           have c10b0 := decide_eq_true c10
           clear c10
           obtain rfl := Option.some.inj H
           go_wp2_with (first | ((with_reducible refine gate_callee (f := 55) rfl ?_); refine qg 23 Tryz.func55 #[.slice A639_0 (rd_L4 l0 x8_1).length c639_0, .int .i64 x5_2] ?_; (with_reducible refine (spec_poDegreeIn.calls k2 _ _ (rd_L4 l0 x8_1) x5_2 t641 _ ?side1 ?side2 A9.out).mono ?_); (case side1 => repeat (first | exact (Kd.C_below HR639_0.out HB.out) | (with_reducible refine Kd.C_alloc ?_ _) | (with_reducible refine Kd.C_drewN ?_ _) | (with_reducible refine Kd.C_drew ?_))); (case side2 => exact HC639_0.out); rintro e w11 ⟨rfl, hb⟩; refine ⟨_, rfl, ?_⟩; replace HB := qa (below_step (zb0 HB) hb); (try clear hb); (try clear hb2); (try clear hk); (try clear hi)))
           go_ret
           exact ⟨by first | rfl | (simp [errW_none, errW_some] <;> rfl) | (simp [*, errW_none, errW_some] <;> rfl), (zb0 HB)⟩
          ·
           rw [if_neg c10] at H
           have c10b0 := decide_eq_false c10
           clear c10
           have H' := qa H
           clear H
           go_wp2_with (first | ((with_reducible refine gate_callee (f := 55) rfl ?_); refine qg 23 Tryz.func55 #[.slice A639_0 (rd_L4 l0 x8_1).length c639_0, .int .i64 x5_2] ?_; (with_reducible refine (spec_poDegreeIn.calls k2 _ _ (rd_L4 l0 x8_1) x5_2 t641 _ ?side1 ?side2 A9.out).mono ?_); (case side1 => repeat (first | exact (Kd.C_below HR639_0.out HB.out) | (with_reducible refine Kd.C_alloc ?_ _) | (with_reducible refine Kd.C_drewN ?_ _) | (with_reducible refine Kd.C_drew ?_))); (case side2 => exact HC639_0.out); rintro e w12 ⟨rfl, hb⟩; refine ⟨_, rfl, ?_⟩; replace HB := qa (below_step (zb0 HB) hb); (try clear hb); (try clear hb2); (try clear hk); (try clear hi)))
           go_roundg k2
           case measure => have := HK1.out; have := HK2.out; omega
           case rel => exact ⟨(wrap64 (x5_2 + 1)), qf, H', ⟨by have := HK1.out; have := HK2.out; omega⟩, ⟨(zb0 HB)⟩⟩
         ·
          rw [if_neg c8] at H
          have c8b0 := decide_eq_false c8
          clear c8
          have H' := qa H
          clear H
          go_wp2
          go_roundg k2
          case measure => have := HK1.out; have := HK2.out; omega
          case rel => exact ⟨(wrap64 (x8_1 + 1)), qf, H', ⟨by have := HK1.out; have := HK2.out; omega⟩, ⟨(zb0 HB)⟩⟩
      ·
       replace c6 := Bool.eq_false_iff.mpr c6
       subst c6
       have H1 : (some false) = some r := by rw [if_neg (show ¬ (false = true) by decide)] at H; exact H
       clear H
       have H := H1
       clear H1
       obtain rfl := Option.some.inj H
       have p639 : 0 ≤ (x8_1 : Int) := qd
       have q639 : x8_1 < (l0.length : Int) := qd
       obtain ⟨ad639, A639_0, c639_0, e639, hx639_0, hl639_0, hi639_0⟩ := at_L4 HR0.out x8_1 p639 q639
       cases e639
       replace hx639_0 := qb HB hx639_0
       have HR639_0 := qa hi639_0
       have HC639_0 := qa hl639_0
       clear hi639_0 hl639_0
       replace p639 := eq_true p639
       replace q639 := eq_true q639
       go_wp2_with (first | ((with_reducible refine gate_callee (f := 38) rfl ?_); refine qg 13 Tryz.func38 #[.slice A639_0 (rd_L4 l0 x8_1).length c639_0] ?_; (with_reducible refine (spec_poGood.calls k1 _ _ (rd_L4 l0 x8_1) false _ ?side1 ?side2 A5.out).mono ?_); (case side1 => repeat (first | exact (Kd.C_below HR639_0.out HB.out) | (with_reducible refine Kd.C_alloc ?_ _) | (with_reducible refine Kd.C_drewN ?_ _) | (with_reducible refine Kd.C_drew ?_))); (case side2 => exact HC639_0.out); rintro e w13 ⟨rfl, hb⟩; refine ⟨_, rfl, ?_⟩; replace HB := qa (below_step (zb0 HB) hb); (try clear hb); (try clear hb2); (try clear hk); (try clear hi)))
       go_ret
       exact ⟨by first | rfl | (simp [errW_none, errW_some] <;> rfl) | (simp [*, errW_none, errW_some] <;> rfl), (zb0 HB)⟩
     ·
      rw [if_neg c4] at H
      exact absurd H (by simp)
    ·
     rw [if_neg c3] at H
     exact absurd H (by simp)
   ·
    rw [if_neg c2] at H
    have c2b0 := decide_eq_false c2
    clear c2
    replace H := qo H
    obtain ⟨t638, A14, H⟩ := H
    replace H : (some t638) = some r := H
    obtain rfl := Option.some.inj H
    go_wp2_with (first | ((with_reducible refine gate_callee (f := 49) rfl ?_); refine qg 28 Tryz.func49 #[.int .i64 (l0.length : Int), .int .i64 1, .int .i64 3] ?_; (with_reducible refine (spec_l1In.calls (l0.length : Int) 1 3 t638 _ A14.out).mono ?_); rintro e w' ⟨rfl, ⟨nd, rfl⟩⟩; refine ⟨_, rfl, ?_⟩))
    go_ret
    exact ⟨by first | rfl | (simp [errW_none, errW_some] <;> rfl) | (simp [*, errW_none, errW_some] <;> rfl), (zb0 HB)⟩
/-! ### spec_IsSystem: function 25 -/
set_option maxHeartbeats 8000000 in
set_option maxRecDepth 100000 in
theorem spec_IsSystem.calls (k : Nat) (A0 : Option Addr) (c0 : Nat) (l0 : List (List (S62))) (r : Bool) (w : World) (hr0 : Kd.C (Kd.slice 62 k62) w A0 l0.length l0) (hc0 : l0.length ≤ c0) (h : spec_IsSystem.f k l0 = some r) :
  Calls Tryz.prog 25 #[.slice A0 l0.length c0] w fun e w' => e = .returned (.bool r) ∧ Below w.heap.size w w' := by
 have HR0 := qa hr0
 have HC0 := qa hc0
 clear hr0 hc0
 have HB := qa (Below.refl w.heap.size w)
 have H : ((spec_poSystem.f k l0).bind fun t642 => (some t642)) = some r := h
 clear h
 replace H := qo H
 obtain ⟨t642, A2, H⟩ := H
 replace H : (some t642) = some r := H
 obtain rfl := Option.some.inj H
 go_enter Tryz.func25, Tryz.ntmps25
 go_wp2_with (first | ((with_reducible refine gate_callee (f := 60) rfl ?_); refine qg 4 Tryz.func60 #[.slice A0 l0.length c0] ?_; (with_reducible refine (spec_poSystem.calls k _ _ l0 t642 _ ?side1 ?side2 A2.out).mono ?_); (case side1 => repeat (first | exact HR0.out | (with_reducible refine Kd.C_alloc ?_ _) | (with_reducible refine Kd.C_drewN ?_ _) | (with_reducible refine Kd.C_drew ?_))); (case side2 => exact HC0.out); rintro e w3 ⟨rfl, hb⟩; refine ⟨_, rfl, ?_⟩; replace HB := qa (below_step (zb0 HB) hb); (try clear hb); (try clear hb2); (try clear hk); (try clear hi)))
 go_ret
 exact ⟨by first | rfl | (simp [errW_none, errW_some] <;> rfl) | (simp [*, errW_none, errW_some] <;> rfl), (zb0 HB)⟩
end Go.Proofs.YthanmlojikidbaaGreat.PD
