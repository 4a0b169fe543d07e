-- By wip/mk/drv.py
import Derived.Test.YtgaoniapddpaaaaQWidedePDx0
import Derived.Test.YtgaoniapddpaaaaQWidedePDx1
import Derived.Test.YtgaoniapddpaaaaQWidedePDx2
import Derived.Test.YtgaoniapddpaaaaQWidedePDx7
import Derived.Test.YtgaoniapddpaaaaQWidedePDx14
namespace Go.Proofs.Ytgaoniapddpaaaa.PD
open Go.RowKit Go.Proofs.YtgaoniapddpaaaaW.PrintWords Go.Proofs.YtgaoniapddpaaaaW.PrintLast Go.Proofs.YtgaoniapddpaaaaW.PrintMore
attribute [local go_sem] max2_int min2_int max_two min_two max_three min_three max_four min_four
set_option linter.unusedVariables false
set_option linter.unusedSimpArgs false
/-! ### impl_WidestSide: function 20 -/
theorem z20_0 {P Q : Prop} (h : Aside0 (Q)) (f : Q → P := by intro h_; repeat (first | (with_reducible first | exact h_ | apply IsS27.alloc | apply IsS27.drewN | apply IsS27.drew | apply IsS27.set_0) | exact h_)) : P := f h.out
theorem z20_1 {w W0 W1 : World} {B : Nat} (h : Aside0 (Below B w W0)) (f : Below B w W0 → Below B w W1 := by intro h_; repeat (first | (with_reducible first | exact h_ | apply below_alloc | apply pw_below_drewN | apply below_drew1 | refine below_set ?_ (IsS27.ge (Aside0.out (by assumption)))) | exact h_)) : Below B w W1 := f h.out
set_option maxHeartbeats 8000000 in
set_option maxRecDepth 100000 in
theorem impl_WidestSide.calls (k : Nat) (a0_0 : Int) (A0_1 : Option Addr) (c0_1 : Nat) (l0_1 : List Int) (A0_2 : Option Addr) (c0_2 : Nat) (l0_2 : List Int) (r1 : Int) (r2 : Bool) (w : World) (hr0_1 : Kd.C (Kd.int .i64) w A0_1 l0_1.length l0_1) (hc0_1 : l0_1.length ≤ c0_1) (hr0_2 : Kd.C (Kd.int .i64) w A0_2 l0_2.length l0_2) (hc0_2 : l0_2.length ≤ c0_2) (h : impl_WidestSide.f k a0_0 l0_1 l0_2 = some (r1, r2)) :
  Calls Try.prog 20 #[.agg #[.int .i64 a0_0, .slice A0_1 l0_1.length c0_1, .slice A0_2 l0_2.length c0_2]] w fun e w' => e = .returned (.tuple #[.int .i64 r1, .bool r2]) ∧ Below w.heap.size w w' := by
 have hu27 := Try.underlying27
 have HR0_1 := Aside0.mk hr0_1
 have HC0_1 := Aside0.mk hc0_1
 clear hr0_1 hc0_1
 have HR0_2 := Aside0.mk hr0_2
 have HC0_2 := Aside0.mk hc0_2
 clear hr0_2 hc0_2
 have HB := Aside0.mk (Below.refl w.heap.size w)
 have H : ((impl_isBox.f k a0_0 l0_1 l0_2).bind fun bt195 => (if bt195.1 = true then (impl_WidestSide.l0 k 0 (l0_1.length : Int) 0 bt195.2 l0_1 l0_2) else (some (0, false)))) = some (r1, r2) := h
 clear h
 replace H := Option.bind_eq_some_iff.mp H
 obtain ⟨⟨t195, t196⟩, A20, H⟩ := H
 replace H : (if t195 = true then (impl_WidestSide.l0 k 0 (l0_1.length : Int) 0 t196 l0_1 l0_2) else (some (0, false))) = some (r1, r2) := H
 have A2 := Aside0.mk A20
 clear A20
 by_cases c3 : t195 = true
 ·
  subst c3
  have H1 : (impl_WidestSide.l0 k 0 (l0_1.length : Int) 0 t196 l0_1 l0_2) = some (r1, r2) := by rw [if_pos rfl] at H; exact H
  clear H
  have H := H1
  clear H1
  have H' := Aside0.mk H
  clear H
  go_enter Try.func20, Try.ntmps20
  go_wp2_with (first | ((with_reducible refine gate_dst (N := 1) rfl ?_); refine zbe (N := 1) (cs := #[.int .i64 a0_0, .slice A0_1 l0_1.length c0_1, .slice A0_2 l0_2.length c0_2]) (t := 27) ?_; intro gb194 hg w4 hbox hb; have BK194 := Aside0.mk (hbox); have GW194 := Aside0.mk (zge (zb0 HB) hg); have GE194 := GW194; replace HB := Aside0.mk (below_step (zb0 HB) hb); clear hb hbox hg; have HI194 : Aside0 (IsS27 w w4 gb194 a0_0 l0_1 l0_2) := ⟨⟨A0_1, c0_1, A0_2, c0_2, (zq1 BK194), GE194.out, HR0_1.out, HR0_2.out⟩⟩) | ((with_reducible refine gate_callee (f := 57) rfl ?_); refine goesL_ (some 6) rfl rfl Try.func57 (by kernel_rfl) rfl #[.pointer (some ⟨gb194, 0, none⟩)] rfl zq6 ?_; (with_reducible refine (impl_isBox.calls k gb194 a0_0 l0_1 l0_2 true t196 w _ ?side1 ?side2 A2.out).mono ?_); (case side1 => exact z20_0 HI194); (case side2 => exact z20_1 HB); rintro e w5 ⟨rfl, hi, hb, hk⟩; refine ⟨_, rfl, ?_⟩; replace HB := Aside0.mk (hb); replace HI194 := Aside0.mk (hi); (try clear hb); (try clear hb2); (try clear hk); (try clear hi); obtain ⟨ASz6_1, cSz6_1, ASz6_2, cSz6_2, HGz6, hgz6, HSz6_1, HSz6_2⟩ := HI194.out; have hcz6_0 := cellS27_0 HGz6; have hcz6_1 := cellS27_1 HGz6; have hcz6_2 := cellS27_2 HGz6; have hfz6_0 := blk_frozen HGz6 0; clear HGz6 hgz6))
  go_loopg [4, 11] k (fun kq v4 v11 w' => ∃ (x4_1 : Int) (x11_1 : Int), v4 = .int .i64 x4_1 ∧ v11 = .int .i64 x11_1 ∧ Aside0 (impl_WidestSide.l0 kq x4_1 (l0_1.length : Int) x11_1 t196 l0_1 l0_2 = some (r1, r2)) ∧ Aside0 (kq ≤ k) ∧ Aside0 (IsS27 w w' gb194 t196 l0_1 l0_2) ∧ Aside0 (Below w.heap.size w w'))
  case atStart => exact ⟨(0), (0), (by first | rfl | (simp; done) | (simp [*]; done)), (by first | rfl | (simp; done) | (simp [*]; done)), H', ⟨Nat.le_refl _⟩, ⟨(z20_0 HI194)⟩, ⟨(z20_1 HB)⟩⟩
  case round =>
   clear H'
   try clear c2
   try clear p2
   try clear c3
   try clear c5
   try clear hcz6_0
   try clear hcz6_1
   try clear hcz6_2
   try clear hfz6_0
   obtain ⟨x4_1, x11_1, rfl, rfl, HA, HK1, HI194, HB⟩ := hrel
   cases gk with
   | zero => exact absurd HA.out (by simp [impl_WidestSide.l0])
   | succ k1 =>
    have H := HA.out
    clear HA
    simp only [impl_WidestSide.l0] at H
    by_cases c7 : x11_1 < (l0_1.length : Int)
    ·
     rw [if_pos c7] at H
     have c7b0 : decide (x11_1 < (l0_1.length : Int)) = true := decide_eq_true c7
     clear c7
     replace H := Option.bind_eq_some_iff.mp H
     obtain ⟨⟨t197, t198⟩, A80, H⟩ := H
     have hk_ := impl_Box_length.keep A80
     subst hk_
     replace H : ((impl_Box_length.f t196 l0_1 l0_2 x4_1).bind fun bt199 => (if t197 > bt199.1 then (impl_WidestSide.l0 k1 x11_1 (l0_1.length : Int) (wrap64 (x11_1 + 1)) bt199.2 l0_1 l0_2) else (impl_WidestSide.l0 k1 x4_1 (l0_1.length : Int) (wrap64 (x11_1 + 1)) bt199.2 l0_1 l0_2))) = some (r1, r2) := H
     have A8 := Aside0.mk A80
     clear A80
     replace H := Option.bind_eq_some_iff.mp H
     obtain ⟨⟨t199, t200⟩, A90, H⟩ := H
     have hk_ := impl_Box_length.keep A90
     subst hk_
     replace H : (if t197 > t199 then (impl_WidestSide.l0 k1 x11_1 (l0_1.length : Int) (wrap64 (x11_1 + 1)) t196 l0_1 l0_2) else (impl_WidestSide.l0 k1 x4_1 (l0_1.length : Int) (wrap64 (x11_1 + 1)) t196 l0_1 l0_2)) = some (r1, r2) := H
     have A9 := Aside0.mk A90
     clear A90
     by_cases c10 : t197 > t199
     ·
      rw [if_pos c10] at H
      have c10b0 : decide (t199 < t197) = true := decide_eq_true c10
      clear c10
      have H' := Aside0.mk H
      clear H
      go_wp2_with (first | ((with_reducible refine gate_callee (f := 59) rfl ?_); refine goesL_ (some 15) rfl rfl Try.func59 (by kernel_rfl) rfl #[.pointer (some ⟨gb194, 0, none⟩), .int .i64 x11_1] rfl zq6 ?_; (with_reducible refine (impl_Box_length.calls gb194 t196 l0_1 l0_2 x11_1 t197 t196 w _ ?side1 ?side2 A8.out).mono ?_); (case side1 => exact z20_0 HI194); (case side2 => exact z20_1 HB); rintro e w11 ⟨rfl, hi, hb, hk⟩; refine ⟨_, rfl, ?_⟩; replace HB := Aside0.mk (hb); replace HI194 := Aside0.mk (hi); (try clear hb); (try clear hb2); (try clear hk); (try clear hi)) | ((with_reducible refine gate_callee (f := 59) rfl ?_); refine goesL_ (some 17) rfl rfl Try.func59 (by kernel_rfl) rfl #[.pointer (some ⟨gb194, 0, none⟩), .int .i64 x4_1] rfl zq6 ?_; (with_reducible refine (impl_Box_length.calls gb194 t196 l0_1 l0_2 x4_1 t199 t196 w _ ?side1 ?side2 A9.out).mono ?_); (case side1 => exact z20_0 HI194); (case side2 => exact z20_1 HB); rintro e w12 ⟨rfl, hi, hb, hk⟩; refine ⟨_, rfl, ?_⟩; replace HB := Aside0.mk (hb); replace HI194 := Aside0.mk (hi); (try clear hb); (try clear hb2); (try clear hk); (try clear hi)))
      go_roundg k1
      case measure => have := HK1.out; omega
      case rel => exact ⟨(x11_1), (wrap64 (x11_1 + 1)), (by first | rfl | (simp; done) | (simp [*]; done)), (by first | rfl | (simp; done) | (simp [*]; done)), H', ⟨by have := HK1.out; omega⟩, ⟨(z20_0 HI194)⟩, ⟨(z20_1 HB)⟩⟩
     ·
      rw [if_neg c10] at H
      have c10b0 : decide (t199 < t197) = false := decide_eq_false c10
      clear c10
      have H' := Aside0.mk H
      clear H
      go_wp2_with (first | ((with_reducible refine gate_callee (f := 59) rfl ?_); refine goesL_ (some 15) rfl rfl Try.func59 (by kernel_rfl) rfl #[.pointer (some ⟨gb194, 0, none⟩), .int .i64 x11_1] rfl zq6 ?_; (with_reducible refine (impl_Box_length.calls gb194 t196 l0_1 l0_2 x11_1 t197 t196 w _ ?side1 ?side2 A8.out).mono ?_); (case side1 => exact z20_0 HI194); (case side2 => exact z20_1 HB); rintro e w13 ⟨rfl, hi, hb, hk⟩; refine ⟨_, rfl, ?_⟩; replace HB := Aside0.mk (hb); replace HI194 := Aside0.mk (hi); (try clear hb); (try clear hb2); (try clear hk); (try clear hi)) | ((with_reducible refine gate_callee (f := 59) rfl ?_); refine goesL_ (some 17) rfl rfl Try.func59 (by kernel_rfl) rfl #[.pointer (some ⟨gb194, 0, none⟩), .int .i64 x4_1] rfl zq6 ?_; (with_reducible refine (impl_Box_length.calls gb194 t196 l0_1 l0_2 x4_1 t199 t196 w _ ?side1 ?side2 A9.out).mono ?_); (case side1 => exact z20_0 HI194); (case side2 => exact z20_1 HB); rintro e w14 ⟨rfl, hi, hb, hk⟩; refine ⟨_, rfl, ?_⟩; replace HB := Aside0.mk (hb); replace HI194 := Aside0.mk (hi); (try clear hb); (try clear hb2); (try clear hk); (try clear hi)))
      go_roundg k1
      case measure => have := HK1.out; omega
      case rel => exact ⟨(x4_1), (wrap64 (x11_1 + 1)), (by first | rfl | (simp; done) | (simp [*]; done)), (by first | rfl | (simp; done) | (simp [*]; done)), H', ⟨by have := HK1.out; omega⟩, ⟨(z20_0 HI194)⟩, ⟨(z20_1 HB)⟩⟩
    ·
     rw [if_neg c7] at H
     have c7b0 : decide (x11_1 < (l0_1.length : Int)) = false := decide_eq_false c7
     clear c7
     simp only [Option.some.injEq, Prod.mk.injEq] at H
     obtain ⟨rfl, rfl⟩ := H
     go_wp2
     go_ret2
     exact ⟨by first | rfl | (simp [errW_none, errW_some] <;> rfl) | (simp [*, errW_none, errW_some] <;> rfl), (z20_1 HB)⟩
 ·
  replace c3 := Bool.eq_false_iff.mpr c3
  subst c3
  have H1 : (some (0, false)) = some (r1, r2) := by rw [if_neg (show ¬ (false = true) by decide)] at H; exact H
  clear H
  have H := H1
  clear H1
  simp only [Option.some.injEq, Prod.mk.injEq] at H
  obtain ⟨rfl, rfl⟩ := H
  go_enter Try.func20, Try.ntmps20
  go_wp2_with (first | ((with_reducible refine gate_dst (N := 1) rfl ?_); refine zbe (N := 1) (cs := #[.int .i64 a0_0, .slice A0_1 l0_1.length c0_1, .slice A0_2 l0_2.length c0_2]) (t := 27) ?_; intro gb194 hg w15 hbox hb; have BK194 := Aside0.mk (hbox); have GW194 := Aside0.mk (zge (zb0 HB) hg); have GE194 := GW194; replace HB := Aside0.mk (below_step (zb0 HB) hb); clear hb hbox hg; have HI194 : Aside0 (IsS27 w w15 gb194 a0_0 l0_1 l0_2) := ⟨⟨A0_1, c0_1, A0_2, c0_2, (zq1 BK194), GE194.out, HR0_1.out, HR0_2.out⟩⟩) | ((with_reducible refine gate_callee (f := 57) rfl ?_); refine goesL_ (some 6) rfl rfl Try.func57 (by kernel_rfl) rfl #[.pointer (some ⟨gb194, 0, none⟩)] rfl zq6 ?_; (with_reducible refine (impl_isBox.calls k gb194 a0_0 l0_1 l0_2 false t196 w _ ?side1 ?side2 A2.out).mono ?_); (case side1 => exact z20_0 HI194); (case side2 => exact z20_1 HB); rintro e w16 ⟨rfl, hi, hb, hk⟩; refine ⟨_, rfl, ?_⟩; replace HB := Aside0.mk (hb); replace HI194 := Aside0.mk (hi); (try clear hb); (try clear hb2); (try clear hk); (try clear hi)))
  go_ret2
  exact ⟨by first | rfl | (simp [errW_none, errW_some] <;> rfl) | (simp [*, errW_none, errW_some] <;> rfl), (z20_1 HB)⟩
end Go.Proofs.Ytgaoniapddpaaaa.PD
