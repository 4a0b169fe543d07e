-- By wip/mk/drv.py
import Derived.Test.YtgaoniapddpaaaaQMiddntPDx0
import Derived.Test.YtgaoniapddpaaaaQMiddntPDx1
import Derived.Test.YtgaoniapddpaaaaQMiddntPDx8
import Derived.Test.YtgaoniapddpaaaaQMiddntPDx32
import Derived.Test.YtgaoniapddpaaaaQMiddntPDx36
namespace Go.Proofs.Ytgaoniapddpaaaa.PD
open Go.RowKit Go.Proofs.YtgaoniapddpaaaaW.PrintWords Go.Proofs.YtgaoniapddpaaaaW.PrintLast Go.Proofs.YtgaoniapddpaaaaW.PrintMore
attribute [local go_sem] max2_int min2_int max_two min_two max_three min_three max_four min_four
set_option linter.unusedVariables false
set_option linter.unusedSimpArgs false
/-! ### impl_MiddlePoint: function 37 -/
theorem z37_0 {P Q : Prop} (h : Aside0 (Q)) (f : Q → P := by intro h_; repeat (first | (with_reducible first | exact h_ | apply IsS27.alloc | apply IsS27.drewN | apply IsS27.drew | apply IsS27.set_0) | exact h_)) : P := f h.out
theorem z37_1 {w W0 W1 : World} {B : Nat} (h : Aside0 (Below B w W0)) (f : Below B w W0 → Below B w W1 := by intro h_; repeat (first | (with_reducible first | exact h_ | apply below_alloc | apply pw_below_drewN | apply below_drew1 | refine below_set ?_ (IsS27.ge (Aside0.out (by assumption)))) | exact h_)) : Below B w W1 := f h.out
set_option maxHeartbeats 8000000 in
set_option maxRecDepth 100000 in
theorem impl_MiddlePoint.calls (k : Nat) (a0_0 : Int) (A0_1 : Option Addr) (c0_1 : Nat) (l0_1 : List Int) (A0_2 : Option Addr) (c0_2 : Nat) (l0_2 : List Int) (r1 : List (S37)) (r2 : Bool) (w : World) (hr0_1 : Kd.C (Kd.int .i64) w A0_1 l0_1.length l0_1) (hc0_1 : l0_1.length ≤ c0_1) (hr0_2 : Kd.C (Kd.int .i64) w A0_2 l0_2.length l0_2) (hc0_2 : l0_2.length ≤ c0_2) (h : impl_MiddlePoint.f k a0_0 l0_1 l0_2 = some (r1, r2)) :
  Calls Try.prog 37 #[.agg #[.int .i64 a0_0, .slice A0_1 l0_1.length c0_1, .slice A0_2 l0_2.length c0_2]] w fun e w' => ∃ v0_ : Value, e = .returned (.tuple #[v0_, .bool r2]) ∧ Kd.R k37 37 w' w.heap.size (fun _ => True) v0_ r1 ∧ Below w.heap.size w w' := by
 have hu27 := Try.underlying27
 have HR0_1 := Aside0.mk hr0_1
 have HC0_1 := Aside0.mk hc0_1
 clear hr0_1 hc0_1
 have HR0_2 := Aside0.mk hr0_2
 have HC0_2 := Aside0.mk hc0_2
 clear hr0_2 hc0_2
 have HB := Aside0.mk (Below.refl w.heap.size w)
 have H : ((impl_isBox.f k a0_0 l0_1 l0_2).bind fun bt435 => (if bt435.1 = true then ((impl_Box_middle.f k bt435.2 l0_1 l0_2).bind fun bt437 => (some (bt437.1, true))) else (some (([] : List (S37)), false)))) = some (r1, r2) := h
 clear h
 replace H := Option.bind_eq_some_iff.mp H
 obtain ⟨⟨t435, t436⟩, A20, H⟩ := H
 replace H : (if t435 = true then ((impl_Box_middle.f k t436 l0_1 l0_2).bind fun bt437 => (some (bt437.1, true))) else (some (([] : List (S37)), false))) = some (r1, r2) := H
 have A2 := Aside0.mk A20
 clear A20
 by_cases c3 : t435 = true
 ·
  subst c3
  have H1 : ((impl_Box_middle.f k t436 l0_1 l0_2).bind fun bt437 => (some (bt437.1, true))) = some (r1, r2) := by rw [if_pos rfl] at H; exact H
  clear H
  have H := H1
  clear H1
  replace H := Option.bind_eq_some_iff.mp H
  obtain ⟨⟨t437, t440⟩, A40, H⟩ := H
  replace H : (some (t437, true)) = some (r1, r2) := H
  have A4 := Aside0.mk A40
  clear A40
  simp only [Option.some.injEq, Prod.mk.injEq] at H
  obtain ⟨rfl, rfl⟩ := H
  go_enter Try.func37, Try.ntmps37
  go_wp2_with (first | ((with_reducible refine gate_dst (N := 1) rfl ?_); refine zbe (N := 1) (cs := #[.int .i64 a0_0, .slice A0_1 l0_1.length c0_1, .slice A0_2 l0_2.length c0_2]) (t := 27) ?_; intro gb434 hg w5 hbox hb; have BK434 := Aside0.mk (hbox); have GW434 := Aside0.mk (zge (zb0 HB) hg); have GE434 := GW434; replace HB := Aside0.mk (below_step (zb0 HB) hb); clear hb hbox hg; have HI434 : Aside0 (IsS27 w w5 gb434 a0_0 l0_1 l0_2) := ⟨⟨A0_1, c0_1, A0_2, c0_2, (zq1 BK434), GE434.out, HR0_1.out, HR0_2.out⟩⟩) | ((with_reducible refine gate_callee (f := 57) rfl ?_); refine goesL_ (some 4) rfl rfl Try.func57 (by kernel_rfl) rfl #[.pointer (some ⟨gb434, 0, none⟩)] rfl zq6 ?_; (with_reducible refine (impl_isBox.calls k gb434 a0_0 l0_1 l0_2 true t436 w _ ?side1 ?side2 A2.out).mono ?_); (case side1 => exact z37_0 HI434); (case side2 => exact z37_1 HB); rintro e w6 ⟨rfl, hi, hb, hk⟩; refine ⟨_, rfl, ?_⟩; replace HB := Aside0.mk (hb); replace HI434 := Aside0.mk (hi); (try clear hb); (try clear hb2); (try clear hk); (try clear hi)) | ((with_reducible refine gate_callee (f := 81) rfl ?_); refine goesL_ (some 6) rfl rfl Try.func81 (by kernel_rfl) rfl #[.pointer (some ⟨gb434, 0, none⟩)] rfl zq6 ?_; (with_reducible refine (impl_Box_middle.calls k gb434 t436 l0_1 l0_2 t437 t440 w _ ?side1 ?side2 A4.out).mono ?_); (case side1 => exact z37_0 HI434); (case side2 => exact z37_1 HB); rintro e w7 ⟨v438, rfl, ho0, hi, hb, hk⟩; refine ⟨_, rfl, ?_⟩; have HO439 := Aside0.mk (Kd.R_lower ho0 (below_size (z37_1 HB))); replace HB := Aside0.mk (hb); replace HI434 := Aside0.mk (hi); (try clear hb); (try clear hb2); (try clear hk); (try clear hi); (try clear ho0)))
  go_ret2
  exact ⟨_, by first | rfl | (simp [errW_none, errW_some] <;> rfl) | (simp [*, errW_none, errW_some] <;> rfl), by (with_reducible repeat (first | apply Kd.R_alloc | apply Kd.R_drewN | apply Kd.R_drew)); exact HO439.out, (z37_1 HB)⟩
 ·
  replace c3 := Bool.eq_false_iff.mpr c3
  subst c3
  have H1 : (some (([] : List (S37)), false)) = some (r1, r2) := by rw [if_neg (show ¬ (false = true) by decide)] at H; exact H
  clear H
  have H := H1
  clear H1
  simp only [Option.some.injEq, Prod.mk.injEq] at H
  obtain ⟨rfl, rfl⟩ := H
  go_enter Try.func37, Try.ntmps37
  go_wp2_with (first | ((with_reducible refine gate_dst (N := 1) rfl ?_); refine zbe (N := 1) (cs := #[.int .i64 a0_0, .slice A0_1 l0_1.length c0_1, .slice A0_2 l0_2.length c0_2]) (t := 27) ?_; intro gb434 hg w8 hbox hb; have BK434 := Aside0.mk (hbox); have GW434 := Aside0.mk (zge (zb0 HB) hg); have GE434 := GW434; replace HB := Aside0.mk (below_step (zb0 HB) hb); clear hb hbox hg; have HI434 : Aside0 (IsS27 w w8 gb434 a0_0 l0_1 l0_2) := ⟨⟨A0_1, c0_1, A0_2, c0_2, (zq1 BK434), GE434.out, HR0_1.out, HR0_2.out⟩⟩) | ((with_reducible refine gate_callee (f := 57) rfl ?_); refine goesL_ (some 4) rfl rfl Try.func57 (by kernel_rfl) rfl #[.pointer (some ⟨gb434, 0, none⟩)] rfl zq6 ?_; (with_reducible refine (impl_isBox.calls k gb434 a0_0 l0_1 l0_2 false t436 w _ ?side1 ?side2 A2.out).mono ?_); (case side1 => exact z37_0 HI434); (case side2 => exact z37_1 HB); rintro e w9 ⟨rfl, hi, hb, hk⟩; refine ⟨_, rfl, ?_⟩; replace HB := Aside0.mk (hb); replace HI434 := Aside0.mk (hi); (try clear hb); (try clear hb2); (try clear hk); (try clear hi)))
  go_ret2
  exact ⟨_, by first | rfl | (simp [errW_none, errW_some] <;> rfl) | (simp [*, errW_none, errW_some] <;> rfl), by first | exact Kd.R_nil _ _ _ _ _ | exact Kd.N_nil _ _ _ _ _ | exact Kd.V_nil _ _ _ _ _ | exact Kd.Q_nil _ _ _ _ _ | exact Kd.S_nil _ _ _ _ _, (z37_1 HB)⟩
end Go.Proofs.Ytgaoniapddpaaaa.PD
