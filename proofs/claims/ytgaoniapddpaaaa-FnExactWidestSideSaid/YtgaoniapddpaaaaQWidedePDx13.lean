-- By wip/mk/drv.py
import Derived.Test.YtgaoniapddpaaaaQWidedePDx0
import Derived.Test.YtgaoniapddpaaaaQWidedePDx1
import Derived.Test.YtgaoniapddpaaaaQWidedePDx2
import Derived.Test.YtgaoniapddpaaaaQWidedePDx6
import Derived.Test.YtgaoniapddpaaaaQWidedePDx9
import Derived.Test.YtgaoniapddpaaaaQWidedePDx11
import Derived.Test.YtgaoniapddpaaaaQWidedePDx12
namespace Go.Proofs.Ytgaoniapddpaaaa.PD
open Go.RowKit Go.Proofs.YtgaoniapddpaaaaW.PrintWords Go.Proofs.YtgaoniapddpaaaaW.PrintLast Go.Proofs.YtgaoniapddpaaaaW.PrintMore
attribute [local go_sem] max2_int min2_int max_two min_two max_three min_three max_four min_four
set_option linter.unusedVariables false
set_option linter.unusedSimpArgs false
/-! ### laws_FnExactWidestSide: function 4 -/
set_option maxHeartbeats 8000000 in
set_option maxRecDepth 100000 in
theorem laws_FnExactWidestSide.calls (k : Nat) (a0_0 : Int) (A0_1 : Option Addr) (c0_1 : Nat) (l0_1 : List Int) (A0_2 : Option Addr) (c0_2 : Nat) (l0_2 : List Int) (r : Bool) (w : World) (hr0_1 : Kd.C (Kd.int .i64) w A0_1 l0_1.length l0_1) (hc0_1 : l0_1.length ≤ c0_1) (hr0_2 : Kd.C (Kd.int .i64) w A0_2 l0_2.length l0_2) (hc0_2 : l0_2.length ≤ c0_2) (h : laws_FnExactWidestSide.f k a0_0 l0_1 l0_2 = some r) :
  Calls Try.prog 4 #[.agg #[.int .i64 a0_0, .slice A0_1 l0_1.length c0_1, .slice A0_2 l0_2.length c0_2]] w fun e w' => e = .returned (.bool r) ∧ Below w.heap.size w w' := by
 have hu24 := Try.underlying24
 have hu27 := Try.underlying27
 have HR0_1 := Aside0.mk hr0_1
 have HC0_1 := Aside0.mk hc0_1
 clear hr0_1 hc0_1
 have HR0_2 := Aside0.mk hr0_2
 have HC0_2 := Aside0.mk hc0_2
 clear hr0_2 hc0_2
 have HB := Aside0.mk (Below.refl w.heap.size w)
 have H : ((laws_szBox.f a0_0 l0_1 l0_2 1000000).bind fun t202 => (if t202 < 0 then (some true) else ((laws_toBox.f k a0_0 l0_1 l0_2 false).bind fun bt203 => ((spec_WidestSide.f k bt203.1 bt203.2.1 bt203.2.2).bind fun bt210 => ((laws_toBox.f k a0_0 l0_1 l0_2 false).bind fun bt212 => ((impl_WidestSide.f k bt212.1 bt212.2.1 bt212.2.2).bind fun bt220 => (if bt220.1 = bt210.1 then (if (bt220.2 != bt210.2) = true then (none) else ((laws_toBox.f k a0_0 l0_1 l0_2 false).bind fun bt222 => ((laws_intactBox.f bt212.1 bt212.2.1 bt212.2.2 bt222.1 bt222.2.1 bt222.2.2).bind fun t229 => (if t229 = true then ((laws_toBox.f k a0_0 l0_1 l0_2 true).bind fun bt230 => ((impl_WidestSide.f k bt230.1 bt230.2.1 bt230.2.2).bind fun bt237 => (if bt237.1 = bt210.1 then (if (bt237.2 != bt210.2) = true then (none) else (some true)) else (none)))) else (none))))) else (none)))))))) = some r := h
 clear h
 replace H := Option.bind_eq_some_iff.mp H
 obtain ⟨t202, A20, H⟩ := H
 replace H : (if t202 < 0 then (some true) else ((laws_toBox.f k a0_0 l0_1 l0_2 false).bind fun bt203 => ((spec_WidestSide.f k bt203.1 bt203.2.1 bt203.2.2).bind fun bt210 => ((laws_toBox.f k a0_0 l0_1 l0_2 false).bind fun bt212 => ((impl_WidestSide.f k bt212.1 bt212.2.1 bt212.2.2).bind fun bt220 => (if bt220.1 = bt210.1 then (if (bt220.2 != bt210.2) = true then (none) else ((laws_toBox.f k a0_0 l0_1 l0_2 false).bind fun bt222 => ((laws_intactBox.f bt212.1 bt212.2.1 bt212.2.2 bt222.1 bt222.2.1 bt222.2.2).bind fun t229 => (if t229 = true then ((laws_toBox.f k a0_0 l0_1 l0_2 true).bind fun bt230 => ((impl_WidestSide.f k bt230.1 bt230.2.1 bt230.2.2).bind fun bt237 => (if bt237.1 = bt210.1 then (if (bt237.2 != bt210.2) = true then (none) else (some true)) else (none)))) else (none))))) else (none))))))) = some r := H
 have A2 := Aside0.mk A20
 clear A20
 by_cases c3 : t202 < 0
 ·
  rw [if_pos c3] at H
  have c3b0 : decide (t202 < 0) = true := decide_eq_true c3
  clear c3
  obtain rfl := Option.some.inj H
  go_enter Try.func4, Try.ntmps4
  go_wp2_with (first | ((with_reducible refine gate_dst (N := 1) rfl ?_); refine zbe (N := 1) (cs := #[.int .i64 a0_0, .slice A0_1 l0_1.length c0_1, .slice A0_2 l0_2.length c0_2]) (t := 24) ?_; intro gb201 hg w4 hbox hb; have BK201 := Aside0.mk (hbox); have GW201 := Aside0.mk (zge (zb0 HB) hg); have GE201 := GW201; replace HB := Aside0.mk (below_step (zb0 HB) hb); clear hb hbox hg; have hcz5_0 : w4.cell? ⟨gb201, 0, none⟩ = some (.int .i64 a0_0) := zc BK201 0; have hcz5_1 : w4.cell? ⟨gb201, 1, none⟩ = some (.slice A0_1 l0_1.length c0_1) := zc BK201 1; have hcz5_2 : w4.cell? ⟨gb201, 2, none⟩ = some (.slice A0_2 l0_2.length c0_2) := zc BK201 2; have hfz5_0 := blk_frozen BK201.out 0; have hfz5_1 := blk_frozen BK201.out 1; have hfz5_2 := blk_frozen BK201.out 2) | ((with_reducible refine gate_callee (f := 14) rfl ?_); refine goesL_ (some 13) rfl rfl Try.func14 (by kernel_rfl) rfl #[.agg #[.int .i64 a0_0, .slice A0_1 l0_1.length c0_1, .slice A0_2 l0_2.length c0_2], .int .i64 1000000] rfl zq6 ?_; (with_reducible refine (laws_szBox.calls a0_0 _ _ l0_1 _ _ l0_2 1000000 t202 _ ?side1 ?side2 ?side3 ?side4 A2.out).mono ?_); (case side1 => repeat (first | exact (Kd.C_below HR0_1.out HB.out) | (with_reducible refine Kd.C_alloc ?_ _) | (with_reducible refine Kd.C_drewN ?_ _) | (with_reducible refine Kd.C_drew ?_))); (case side2 => exact HC0_1.out); (case side3 => repeat (first | exact (Kd.C_below HR0_2.out HB.out) | (with_reducible refine Kd.C_alloc ?_ _) | (with_reducible refine Kd.C_drewN ?_ _) | (with_reducible refine Kd.C_drew ?_))); (case side4 => exact HC0_2.out); rintro e w6 ⟨rfl, hb⟩; refine ⟨_, rfl, ?_⟩; replace BK201 := Aside0.mk (zbb BK201 hb); replace HB := Aside0.mk (below_step (zb1 HB) hb); (try clear hb); (try clear hb2); (try clear hk); (try clear hi)))
  go_ret
  exact ⟨by first | rfl | (simp [errW_none, errW_some] <;> rfl) | (simp [*, errW_none, errW_some] <;> rfl), (zb1 HB)⟩
 ·
  rw [if_neg c3] at H
  have c3b0 : decide (t202 < 0) = false := decide_eq_false c3
  clear c3
  replace H := Option.bind_eq_some_iff.mp H
  obtain ⟨⟨t203, t204, t207⟩, A70, H⟩ := H
  replace H : ((spec_WidestSide.f k t203 t204 t207).bind fun bt210 => ((laws_toBox.f k a0_0 l0_1 l0_2 false).bind fun bt212 => ((impl_WidestSide.f k bt212.1 bt212.2.1 bt212.2.2).bind fun bt220 => (if bt220.1 = bt210.1 then (if (bt220.2 != bt210.2) = true then (none) else ((laws_toBox.f k a0_0 l0_1 l0_2 false).bind fun bt222 => ((laws_intactBox.f bt212.1 bt212.2.1 bt212.2.2 bt222.1 bt222.2.1 bt222.2.2).bind fun t229 => (if t229 = true then ((laws_toBox.f k a0_0 l0_1 l0_2 true).bind fun bt230 => ((impl_WidestSide.f k bt230.1 bt230.2.1 bt230.2.2).bind fun bt237 => (if bt237.1 = bt210.1 then (if (bt237.2 != bt210.2) = true then (none) else (some true)) else (none)))) else (none))))) else (none))))) = some r := H
  have A7 := Aside0.mk A70
  clear A70
  replace H := Option.bind_eq_some_iff.mp H
  obtain ⟨⟨t210, t211⟩, A80, H⟩ := H
  replace H : ((laws_toBox.f k a0_0 l0_1 l0_2 false).bind fun bt212 => ((impl_WidestSide.f k bt212.1 bt212.2.1 bt212.2.2).bind fun bt220 => (if bt220.1 = t210 then (if (bt220.2 != t211) = true then (none) else ((laws_toBox.f k a0_0 l0_1 l0_2 false).bind fun bt222 => ((laws_intactBox.f bt212.1 bt212.2.1 bt212.2.2 bt222.1 bt222.2.1 bt222.2.2).bind fun t229 => (if t229 = true then ((laws_toBox.f k a0_0 l0_1 l0_2 true).bind fun bt230 => ((impl_WidestSide.f k bt230.1 bt230.2.1 bt230.2.2).bind fun bt237 => (if bt237.1 = t210 then (if (bt237.2 != t211) = true then (none) else (some true)) else (none)))) else (none))))) else (none)))) = some r := H
  have A8 := Aside0.mk A80
  clear A80
  replace H := Option.bind_eq_some_iff.mp H
  obtain ⟨⟨t212, t213, t216⟩, A90, H⟩ := H
  replace H : ((impl_WidestSide.f k t212 t213 t216).bind fun bt220 => (if bt220.1 = t210 then (if (bt220.2 != t211) = true then (none) else ((laws_toBox.f k a0_0 l0_1 l0_2 false).bind fun bt222 => ((laws_intactBox.f t212 t213 t216 bt222.1 bt222.2.1 bt222.2.2).bind fun t229 => (if t229 = true then ((laws_toBox.f k a0_0 l0_1 l0_2 true).bind fun bt230 => ((impl_WidestSide.f k bt230.1 bt230.2.1 bt230.2.2).bind fun bt237 => (if bt237.1 = t210 then (if (bt237.2 != t211) = true then (none) else (some true)) else (none)))) else (none))))) else (none))) = some r := H
  have A9 := Aside0.mk A90
  clear A90
  replace H := Option.bind_eq_some_iff.mp H
  obtain ⟨⟨t220, t221⟩, A100, H⟩ := H
  replace H : (if t220 = t210 then (if (t221 != t211) = true then (none) else ((laws_toBox.f k a0_0 l0_1 l0_2 false).bind fun bt222 => ((laws_intactBox.f t212 t213 t216 bt222.1 bt222.2.1 bt222.2.2).bind fun t229 => (if t229 = true then ((laws_toBox.f k a0_0 l0_1 l0_2 true).bind fun bt230 => ((impl_WidestSide.f k bt230.1 bt230.2.1 bt230.2.2).bind fun bt237 => (if bt237.1 = t210 then (if (bt237.2 != t211) = true then (none) else (some true)) else (none)))) else (none))))) else (none)) = some r := H
  have A10 := Aside0.mk A100
  clear A100
  by_cases c11 : t220 = t210
  ·
   rw [if_pos c11] at H
   have c11b0 : (t220 == t210) = true := beq_iff_eq.mpr c11
   have c11b1 : (t220 != t210) = false := bne_eq_false_iff_eq.mpr c11
   clear c11
   by_cases c12 : (t221 != t211) = true
   ·
    rw [if_pos c12] at H
    exact absurd H (by simp)
   ·
    rw [if_neg c12] at H
    have c12b0 : (t221 != t211) = false := by simpa using c12
    (try (have c12b1 : decide (t221 = t211) = true := by simpa using c12))
    (try (have c12b2 : (t221 == t211) = true := by simpa using c12))
    clear c12
    replace H := Option.bind_eq_some_iff.mp H
    obtain ⟨⟨t222, t223, t226⟩, A130, H⟩ := H
    replace H : ((laws_intactBox.f t212 t213 t216 t222 t223 t226).bind fun t229 => (if t229 = true then ((laws_toBox.f k a0_0 l0_1 l0_2 true).bind fun bt230 => ((impl_WidestSide.f k bt230.1 bt230.2.1 bt230.2.2).bind fun bt237 => (if bt237.1 = t210 then (if (bt237.2 != t211) = true then (none) else (some true)) else (none)))) else (none))) = some r := H
    have A13 := Aside0.mk A130
    clear A130
    replace H := Option.bind_eq_some_iff.mp H
    obtain ⟨t229, A140, H⟩ := H
    replace H : (if t229 = true then ((laws_toBox.f k a0_0 l0_1 l0_2 true).bind fun bt230 => ((impl_WidestSide.f k bt230.1 bt230.2.1 bt230.2.2).bind fun bt237 => (if bt237.1 = t210 then (if (bt237.2 != t211) = true then (none) else (some true)) else (none)))) else (none)) = some r := H
    have A14 := Aside0.mk A140
    clear A140
    by_cases c15 : t229 = true
    ·
     subst c15
     have H1 : ((laws_toBox.f k a0_0 l0_1 l0_2 true).bind fun bt230 => ((impl_WidestSide.f k bt230.1 bt230.2.1 bt230.2.2).bind fun bt237 => (if bt237.1 = t210 then (if (bt237.2 != t211) = true then (none) else (some true)) else (none)))) = some r := by rw [if_pos rfl] at H; exact H
     clear H
     have H := H1
     clear H1
     replace H := Option.bind_eq_some_iff.mp H
     obtain ⟨⟨t230, t231, t234⟩, A160, H⟩ := H
     replace H : ((impl_WidestSide.f k t230 t231 t234).bind fun bt237 => (if bt237.1 = t210 then (if (bt237.2 != t211) = true then (none) else (some true)) else (none))) = some r := H
     have A16 := Aside0.mk A160
     clear A160
     replace H := Option.bind_eq_some_iff.mp H
     obtain ⟨⟨t237, t238⟩, A170, H⟩ := H
     replace H : (if t237 = t210 then (if (t238 != t211) = true then (none) else (some true)) else (none)) = some r := H
     have A17 := Aside0.mk A170
     clear A170
     by_cases c18 : t237 = t210
     ·
      rw [if_pos c18] at H
      have c18b0 : (t237 == t210) = true := beq_iff_eq.mpr c18
      have c18b1 : (t237 != t210) = false := bne_eq_false_iff_eq.mpr c18
      clear c18
      by_cases c19 : (t238 != t211) = true
      ·
       rw [if_pos c19] at H
       exact absurd H (by simp)
      ·
       rw [if_neg c19] at H
       have c19b0 : (t238 != t211) = false := by simpa using c19
       (try (have c19b1 : decide (t238 = t211) = true := by simpa using c19))
       (try (have c19b2 : (t238 == t211) = true := by simpa using c19))
       clear c19
       obtain rfl := Option.some.inj H
       go_enter Try.func4, Try.ntmps4
       try go_wp2_with (first | ((with_reducible refine gate_dst (N := 1) rfl ?_); refine zbe (N := 1) (cs := #[.int .i64 a0_0, .slice A0_1 l0_1.length c0_1, .slice A0_2 l0_2.length c0_2]) (t := 24) ?_; intro gb201 hg w20 hbox hb; have BK201 := Aside0.mk (hbox); have GW201 := Aside0.mk (zge (zb0 HB) hg); have GE201 := GW201; replace HB := Aside0.mk (below_step (zb0 HB) hb); clear hb hbox hg; have hcz21_0 : w20.cell? ⟨gb201, 0, none⟩ = some (.int .i64 a0_0) := zc BK201 0; have hcz21_1 : w20.cell? ⟨gb201, 1, none⟩ = some (.slice A0_1 l0_1.length c0_1) := zc BK201 1; have hcz21_2 : w20.cell? ⟨gb201, 2, none⟩ = some (.slice A0_2 l0_2.length c0_2) := zc BK201 2; have hfz21_0 := blk_frozen BK201.out 0; have hfz21_1 := blk_frozen BK201.out 1; have hfz21_2 := blk_frozen BK201.out 2) | ((with_reducible refine gate_callee (f := 14) rfl ?_); refine goesL_ (some 13) rfl rfl Try.func14 (by kernel_rfl) rfl #[.agg #[.int .i64 a0_0, .slice A0_1 l0_1.length c0_1, .slice A0_2 l0_2.length c0_2], .int .i64 1000000] rfl zq6 ?_; (with_reducible refine (laws_szBox.calls a0_0 _ _ l0_1 _ _ l0_2 1000000 t202 _ ?side1 ?side2 ?side3 ?side4 A2.out).mono ?_); (case side1 => repeat (first | exact (Kd.C_below HR0_1.out HB.out) | (with_reducible refine Kd.C_alloc ?_ _) | (with_reducible refine Kd.C_drewN ?_ _) | (with_reducible refine Kd.C_drew ?_))); (case side2 => exact HC0_1.out); (case side3 => repeat (first | exact (Kd.C_below HR0_2.out HB.out) | (with_reducible refine Kd.C_alloc ?_ _) | (with_reducible refine Kd.C_drewN ?_ _) | (with_reducible refine Kd.C_drew ?_))); (case side4 => exact HC0_2.out); rintro e w22 ⟨rfl, hb⟩; refine ⟨_, rfl, ?_⟩; replace BK201 := Aside0.mk (zbb BK201 hb); replace HB := Aside0.mk (below_step (zb1 HB) hb); (try clear hb); (try clear hb2); (try clear hk); (try clear hi); have hcz23_0 : w22.cell? ⟨gb201, 0, none⟩ = some (.int .i64 a0_0) := zc BK201 0; have hcz23_1 : w22.cell? ⟨gb201, 1, none⟩ = some (.slice A0_1 l0_1.length c0_1) := zc BK201 1; have hcz23_2 : w22.cell? ⟨gb201, 2, none⟩ = some (.slice A0_2 l0_2.length c0_2) := zc BK201 2; have hfz23_0 := blk_frozen BK201.out 0; have hfz23_1 := blk_frozen BK201.out 1; have hfz23_2 := blk_frozen BK201.out 2) | ((with_reducible refine gate_callee (f := 16) rfl ?_); refine goesL_ (some 18) rfl rfl Try.func16 (by kernel_rfl) rfl #[.agg #[.int .i64 a0_0, .slice A0_1 l0_1.length c0_1, .slice A0_2 l0_2.length c0_2], .bool false] rfl zq6 ?_; (with_reducible refine (laws_toBox.calls k a0_0 _ _ l0_1 _ _ l0_2 false t203 t204 t207 _ ?side1 ?side2 ?side3 ?side4 A7.out).mono ?_); (case side1 => repeat (first | exact (Kd.C_below HR0_1.out HB.out) | (with_reducible refine Kd.C_alloc ?_ _) | (with_reducible refine Kd.C_drewN ?_ _) | (with_reducible refine Kd.C_drew ?_))); (case side2 => exact HC0_1.out); (case side3 => repeat (first | exact (Kd.C_below HR0_2.out HB.out) | (with_reducible refine Kd.C_alloc ?_ _) | (with_reducible refine Kd.C_drewN ?_ _) | (with_reducible refine Kd.C_drew ?_))); (case side4 => exact HC0_2.out); rintro e w24 ⟨v205, v208, rfl, ho0, ho1, hb, ho0F, ho1F⟩; refine ⟨_, rfl, ?_⟩; have n0_ := Aside0.mk (Kd.R_lower ho0 (below_size (zb1 HB))); have n0F_ := Aside0.mk (Kd.R_lower ho0F (below_size (zb1 HB))); have n1_ := Aside0.mk (Kd.R_lower ho1 (below_size (zb1 HB))); have n1F_ := Aside0.mk (Kd.R_lower ho1F (below_size (zb1 HB))); have n2_ := Aside0.mk (zbb BK201 hb); have n3_ := Aside0.mk (below_step (zb1 HB) hb); clear BK201; clear HB; have HO206 := n0_; have HO206F := n0F_; have HO209 := n1_; have HO209F := n1F_; have BK201 := n2_; have HB := n3_; clear n0_ n1_ n2_ n3_ n0F_ n1F_; (try clear hb); (try clear hb2); (try clear hk); (try clear hi); (try clear ho0); (try clear ho0F); (try clear ho1); (try clear ho1F); obtain ⟨Ao25, co25, eo25⟩ := Kd.R_slice HO206.out; subst eo25; obtain ⟨Ao26, co26, eo26⟩ := Kd.R_slice HO209.out; subst eo26) | ((with_reducible refine gate_callee (f := 19) rfl ?_); refine goesL_ (some 19) rfl rfl Try.func19 (by kernel_rfl) rfl #[.agg #[.int .i64 t203, .slice Ao25 t204.length co25, .slice Ao26 t207.length co26]] rfl zq6 ?_; (with_reducible refine (spec_WidestSide.calls k t203 _ _ t204 _ _ t207 t210 t211 _ ?side1 ?side2 ?side3 ?side4 A8.out).mono ?_); (case side1 => repeat (first | exact (Kd.R_reads' HO206.out).2.2 | (with_reducible refine Kd.C_alloc ?_ _) | (with_reducible refine Kd.C_drewN ?_ _) | (with_reducible refine Kd.C_drew ?_))); (case side2 => exact (Kd.R_reads' HO206.out).2.1); (case side3 => repeat (first | exact (Kd.R_reads' HO209.out).2.2 | (with_reducible refine Kd.C_alloc ?_ _) | (with_reducible refine Kd.C_drewN ?_ _) | (with_reducible refine Kd.C_drew ?_))); (case side4 => exact (Kd.R_reads' HO209.out).2.1); rintro e w27 ⟨rfl, hb⟩; refine ⟨_, rfl, ?_⟩; have n0_ := Aside0.mk (Kd.R_below (zq3 HO206) hb); have n0F_ := Aside0.mk (Kd.R_below (zq3 HO206F) hb); have n1_ := Aside0.mk (Kd.R_below (zq3 HO209) hb); have n1F_ := Aside0.mk (Kd.R_below (zq3 HO209F) hb); have n2_ := Aside0.mk (zbb BK201 hb); have n3_ := Aside0.mk (below_step (zb1 HB) hb); clear HO206 HO206F; clear HO209 HO209F; clear BK201; clear HB; have HO206 := n0_; have HO206F := n0F_; have HO209 := n1_; have HO209F := n1F_; have BK201 := n2_; have HB := n3_; clear n0_ n1_ n2_ n3_ n0F_ n1F_; (try clear hb); (try clear hb2); (try clear hk); (try clear hi); have hcz28_0 : w27.cell? ⟨gb201, 0, none⟩ = some (.int .i64 a0_0) := zc BK201 0; have hcz28_1 : w27.cell? ⟨gb201, 1, none⟩ = some (.slice A0_1 l0_1.length c0_1) := zc BK201 1; have hcz28_2 : w27.cell? ⟨gb201, 2, none⟩ = some (.slice A0_2 l0_2.length c0_2) := zc BK201 2; have hfz28_0 := blk_frozen BK201.out 0; have hfz28_1 := blk_frozen BK201.out 1; have hfz28_2 := blk_frozen BK201.out 2) | ((with_reducible refine gate_callee (f := 16) rfl ?_); refine goesL_ (some 23) rfl rfl Try.func16 (by kernel_rfl) rfl #[.agg #[.int .i64 a0_0, .slice A0_1 l0_1.length c0_1, .slice A0_2 l0_2.length c0_2], .bool false] rfl zq6 ?_; (with_reducible refine (laws_toBox.calls k a0_0 _ _ l0_1 _ _ l0_2 false t212 t213 t216 _ ?side1 ?side2 ?side3 ?side4 A9.out).mono ?_); (case side1 => repeat (first | exact (Kd.C_below HR0_1.out HB.out) | (with_reducible refine Kd.C_alloc ?_ _) | (with_reducible refine Kd.C_drewN ?_ _) | (with_reducible refine Kd.C_drew ?_))); (case side2 => exact HC0_1.out); (case side3 => repeat (first | exact (Kd.C_below HR0_2.out HB.out) | (with_reducible refine Kd.C_alloc ?_ _) | (with_reducible refine Kd.C_drewN ?_ _) | (with_reducible refine Kd.C_drew ?_))); (case side4 => exact HC0_2.out); rintro e w29 ⟨v214, v217, rfl, ho0, ho1, hb, ho0F, ho1F⟩; refine ⟨_, rfl, ?_⟩; have n0_ := Aside0.mk (Kd.R_mono (Kd.R_told (Kd.R_told (Kd.R_old (zq3 HO206) hb) (Kd.R_base ho0)) (Kd.R_base ho1)) (fun _ h_ => h_.1)); have n0F_ := Aside0.mk (Kd.R_mono (Kd.R_told (Kd.R_told (Kd.R_old (zq3 HO206F) hb) (Kd.R_base ho0)) (Kd.R_base ho1)) (fun _ h_ => h_.1)); have n1_ := Aside0.mk (Kd.R_mono (Kd.R_told (Kd.R_told (Kd.R_old (zq3 HO209) hb) (Kd.R_base ho0)) (Kd.R_base ho1)) (fun _ h_ => h_.1)); have n1F_ := Aside0.mk (Kd.R_mono (Kd.R_told (Kd.R_told (Kd.R_old (zq3 HO209F) hb) (Kd.R_base ho0)) (Kd.R_base ho1)) (fun _ h_ => h_.1)); have n2_ := Aside0.mk (Kd.R_lower (Kd.R_new' (Kd.R_new' ho0 (Kd.R_lt (zq3 HO206))) (Kd.R_lt (zq3 HO209))) (below_size (zb1 HB))); have n2F_ := Aside0.mk (Kd.R_lower (Kd.R_new' (Kd.R_new' ho0F (Kd.R_lt (zq3 HO206))) (Kd.R_lt (zq3 HO209))) (below_size (zb1 HB))); have n3_ := Aside0.mk (Kd.R_lower (Kd.R_new' (Kd.R_new' ho1 (Kd.R_lt (zq3 HO206))) (Kd.R_lt (zq3 HO209))) (below_size (zb1 HB))); have n3F_ := Aside0.mk (Kd.R_lower (Kd.R_new' (Kd.R_new' ho1F (Kd.R_lt (zq3 HO206))) (Kd.R_lt (zq3 HO209))) (below_size (zb1 HB))); have n4_ := Aside0.mk (zbb BK201 hb); have n5_ := Aside0.mk (below_step (zb1 HB) hb); clear HO206 HO206F; clear HO209 HO209F; clear BK201; clear HB; have HO206 := n0_; have HO206F := n0F_; have HO209 := n1_; have HO209F := n1F_; have HO215 := n2_; have HO215F := n2F_; have HO218 := n3_; have HO218F := n3F_; have BK201 := n4_; have HB := n5_; clear n0_ n1_ n2_ n3_ n4_ n5_ n0F_ n1F_ n2F_ n3F_; (try clear hb); (try clear hb2); (try clear hk); (try clear hi); (try clear ho0); (try clear ho0F); (try clear ho1); (try clear ho1F)) | ((with_reducible refine gate_dst (N := 6) rfl ?_); refine zbe (N := 6) (cs := #[.int .i64 0, .slice none 0 0, .slice none 0 0]) (t := 27) ?_; intro gb219 hg w30 hbox hb; have n0_ := Aside0.mk (Kd.R_below (zq3 HO206) hb); have n0F_ := Aside0.mk (Kd.R_below (zq3 HO206F) hb); have n1_ := Aside0.mk (Kd.R_below (zq3 HO209) hb); have n1F_ := Aside0.mk (Kd.R_below (zq3 HO209F) hb); have n2_ := Aside0.mk (Kd.R_below (zq3 HO215) hb); have n2F_ := Aside0.mk (Kd.R_below (zq3 HO215F) hb); have n3_ := Aside0.mk (Kd.R_below (zq3 HO218) hb); have n3F_ := Aside0.mk (Kd.R_below (zq3 HO218F) hb); have n4_ := Aside0.mk (zbb BK201 hb); have n5_ := Aside0.mk (below_step (zb1 HB) hb); have n6_ := Aside0.mk (hbox); have n7_ := Aside0.mk (zge (zb1 HB) hg); have n8_ := Aside0.mk (zge (zb1 HB) hg); have n9_ := Aside0.mk (zlt BK201 hg); have n10_ := Aside0.mk (zgt BK201 hg); clear HO206 HO206F; clear HO209 HO209F; clear HO215 HO215F; clear HO218 HO218F; clear BK201; clear HB; have HO206 := n0_; have HO206F := n0F_; have HO209 := n1_; have HO209F := n1F_; have HO215 := n2_; have HO215F := n2F_; have HO218 := n3_; have HO218F := n3F_; have BK201 := n4_; have HB := n5_; have BK219 := n6_; have GW219 := n7_; have GE219 := n8_; have NB201_219 := n9_; have NB219_201 := n10_; clear n0_ n1_ n2_ n3_ n4_ n5_ n6_ n7_ n8_ n9_ n10_ n0F_ n1F_ n2F_ n3F_; clear hb hbox hg; have hnb31 := NB219_201.out; have hnc31 := NB201_219.out; have hcz32_0 : w30.cell? ⟨gb219, 0, none⟩ = some (.int .i64 0) := zc BK219 0; have hcz32_1 : w30.cell? ⟨gb219, 1, none⟩ = some (.slice none 0 0) := zc BK219 1; have hcz32_2 : w30.cell? ⟨gb219, 2, none⟩ = some (.slice none 0 0) := zc BK219 2; have hfz32_0 := blk_frozen BK219.out 0; have hfz32_1 := blk_frozen BK219.out 1; have hfz32_2 := blk_frozen BK219.out 2; obtain ⟨Ao33, co33, eo33⟩ := Kd.R_slice HO215.out; subst eo33; obtain ⟨Ao34, co34, eo34⟩ := Kd.R_slice HO218.out; subst eo34) | ((with_reducible refine gate_callee (f := 20) rfl ?_); refine goesL_ (some 26) rfl rfl Try.func20 (by kernel_rfl) rfl #[.agg #[.int .i64 t212, .slice Ao33 t213.length co33, .slice Ao34 t216.length co34]] rfl zq6 ?_; (with_reducible refine (impl_WidestSide.calls k t212 _ _ t213 _ _ t216 t220 t221 _ ?side1 ?side2 ?side3 ?side4 A10.out).mono ?_); (case side1 => refine (Kd.R_reads' (e := 3) (base := w.heap.size) (ok := fun k_ => ((some k_ ≠ (.slice Ao34 t216.length co34 : Value).ownBlock ∧ some k_ ≠ (.slice Ao25 t204.length co25 : Value).ownBlock) ∧ some k_ ≠ (.slice Ao26 t207.length co26 : Value).ownBlock)) (n := t213.length) (c := co33) ?_).2.2; exact (by (with_reducible repeat (first | apply Kd.R_alloc | apply Kd.R_drewN | apply Kd.R_drew)); exact (Kd.R_mono (Kd.R_far (p := ⟨gb219, 2, none⟩) (Kd.R_far (p := ⟨gb219, 1, none⟩) (Kd.R_far (p := ⟨gb219, 0, none⟩) (Kd.R_types HO215.out BK219.out (by decide)) (fun _ hk => hk.2) (.int .i64 t212)) (fun _ hk => hk.2) (.slice Ao33 t213.length co33)) (fun _ hk => hk.2) (.slice Ao34 t216.length co34)) (fun _ h_ => h_.1)))); (case side2 => exact (Kd.R_reads' HO215.out).2.1); (case side3 => refine (Kd.R_reads' (e := 3) (base := w.heap.size) (ok := fun k_ => ((some k_ ≠ (.slice Ao33 t213.length co33 : Value).ownBlock ∧ some k_ ≠ (.slice Ao25 t204.length co25 : Value).ownBlock) ∧ some k_ ≠ (.slice Ao26 t207.length co26 : Value).ownBlock)) (n := t216.length) (c := co34) ?_).2.2; exact (by (with_reducible repeat (first | apply Kd.R_alloc | apply Kd.R_drewN | apply Kd.R_drew)); exact (Kd.R_mono (Kd.R_far (p := ⟨gb219, 2, none⟩) (Kd.R_far (p := ⟨gb219, 1, none⟩) (Kd.R_far (p := ⟨gb219, 0, none⟩) (Kd.R_types HO218.out BK219.out (by decide)) (fun _ hk => hk.2) (.int .i64 t212)) (fun _ hk => hk.2) (.slice Ao33 t213.length co33)) (fun _ hk => hk.2) (.slice Ao34 t216.length co34)) (fun _ h_ => h_.1)))); (case side4 => exact (Kd.R_reads' HO218.out).2.1); rintro e w35 ⟨rfl, hb⟩; refine ⟨_, rfl, ?_⟩; have n0_ := Aside0.mk (Kd.R_below (by (with_reducible repeat (first | apply Kd.R_alloc | apply Kd.R_drewN | apply Kd.R_drew)); exact (Kd.R_mono (Kd.R_far (p := ⟨gb219, 2, none⟩) (Kd.R_far (p := ⟨gb219, 1, none⟩) (Kd.R_far (p := ⟨gb219, 0, none⟩) (Kd.R_types HO206.out BK219.out (by decide)) (fun _ hk => hk.2) (.int .i64 t212)) (fun _ hk => hk.2) (.slice Ao33 t213.length co33)) (fun _ hk => hk.2) (.slice Ao34 t216.length co34)) (fun _ h_ => h_.1))) hb); have n0F_ := Aside0.mk (Kd.R_below (by (with_reducible repeat (first | apply Kd.R_alloc | apply Kd.R_drewN | apply Kd.R_drew)); exact (Kd.R_mono (Kd.R_far (p := ⟨gb219, 2, none⟩) (Kd.R_far (p := ⟨gb219, 1, none⟩) (Kd.R_far (p := ⟨gb219, 0, none⟩) (Kd.R_types HO206F.out BK219.out (by decide)) (fun _ hk => hk.2) (.int .i64 t212)) (fun _ hk => hk.2) (.slice Ao33 t213.length co33)) (fun _ hk => hk.2) (.slice Ao34 t216.length co34)) (fun _ h_ => h_.1))) hb); have n1_ := Aside0.mk (Kd.R_below (by (with_reducible repeat (first | apply Kd.R_alloc | apply Kd.R_drewN | apply Kd.R_drew)); exact (Kd.R_mono (Kd.R_far (p := ⟨gb219, 2, none⟩) (Kd.R_far (p := ⟨gb219, 1, none⟩) (Kd.R_far (p := ⟨gb219, 0, none⟩) (Kd.R_types HO209.out BK219.out (by decide)) (fun _ hk => hk.2) (.int .i64 t212)) (fun _ hk => hk.2) (.slice Ao33 t213.length co33)) (fun _ hk => hk.2) (.slice Ao34 t216.length co34)) (fun _ h_ => h_.1))) hb); have n1F_ := Aside0.mk (Kd.R_below (by (with_reducible repeat (first | apply Kd.R_alloc | apply Kd.R_drewN | apply Kd.R_drew)); exact (Kd.R_mono (Kd.R_far (p := ⟨gb219, 2, none⟩) (Kd.R_far (p := ⟨gb219, 1, none⟩) (Kd.R_far (p := ⟨gb219, 0, none⟩) (Kd.R_types HO209F.out BK219.out (by decide)) (fun _ hk => hk.2) (.int .i64 t212)) (fun _ hk => hk.2) (.slice Ao33 t213.length co33)) (fun _ hk => hk.2) (.slice Ao34 t216.length co34)) (fun _ h_ => h_.1))) hb); have n2_ := Aside0.mk (Kd.R_below (by (with_reducible repeat (first | apply Kd.R_alloc | apply Kd.R_drewN | apply Kd.R_drew)); exact (Kd.R_mono (Kd.R_far (p := ⟨gb219, 2, none⟩) (Kd.R_far (p := ⟨gb219, 1, none⟩) (Kd.R_far (p := ⟨gb219, 0, none⟩) (Kd.R_types HO215.out BK219.out (by decide)) (fun _ hk => hk.2) (.int .i64 t212)) (fun _ hk => hk.2) (.slice Ao33 t213.length co33)) (fun _ hk => hk.2) (.slice Ao34 t216.length co34)) (fun _ h_ => h_.1))) hb); have n2F_ := Aside0.mk (Kd.R_below (by (with_reducible repeat (first | apply Kd.R_alloc | apply Kd.R_drewN | apply Kd.R_drew)); exact (Kd.R_mono (Kd.R_far (p := ⟨gb219, 2, none⟩) (Kd.R_far (p := ⟨gb219, 1, none⟩) (Kd.R_far (p := ⟨gb219, 0, none⟩) (Kd.R_types HO215F.out BK219.out (by decide)) (fun _ hk => hk.2) (.int .i64 t212)) (fun _ hk => hk.2) (.slice Ao33 t213.length co33)) (fun _ hk => hk.2) (.slice Ao34 t216.length co34)) (fun _ h_ => h_.1))) hb); have n3_ := Aside0.mk (Kd.R_below (by (with_reducible repeat (first | apply Kd.R_alloc | apply Kd.R_drewN | apply Kd.R_drew)); exact (Kd.R_mono (Kd.R_far (p := ⟨gb219, 2, none⟩) (Kd.R_far (p := ⟨gb219, 1, none⟩) (Kd.R_far (p := ⟨gb219, 0, none⟩) (Kd.R_types HO218.out BK219.out (by decide)) (fun _ hk => hk.2) (.int .i64 t212)) (fun _ hk => hk.2) (.slice Ao33 t213.length co33)) (fun _ hk => hk.2) (.slice Ao34 t216.length co34)) (fun _ h_ => h_.1))) hb); have n3F_ := Aside0.mk (Kd.R_below (by (with_reducible repeat (first | apply Kd.R_alloc | apply Kd.R_drewN | apply Kd.R_drew)); exact (Kd.R_mono (Kd.R_far (p := ⟨gb219, 2, none⟩) (Kd.R_far (p := ⟨gb219, 1, none⟩) (Kd.R_far (p := ⟨gb219, 0, none⟩) (Kd.R_types HO218F.out BK219.out (by decide)) (fun _ hk => hk.2) (.int .i64 t212)) (fun _ hk => hk.2) (.slice Ao33 t213.length co33)) (fun _ hk => hk.2) (.slice Ao34 t216.length co34)) (fun _ h_ => h_.1))) hb); have n4_ := Aside0.mk (blk_below (g := gb201) (o := .cells #[.int .i64 a0_0, .slice A0_1 l0_1.length c0_1, .slice A0_2 l0_2.length c0_2] 24 (0, 0)) (zq5 BK201) hb); have n5_ := Aside0.mk (blk_below (g := gb219) (o := .cells #[.int .i64 t212, .slice Ao33 t213.length co33, .slice Ao34 t216.length co34] 27 (0, 0)) (by (with_reducible repeat (first | refine blk_drewN ?_ _ | refine blk_drew ?_ | refine blk_alloc ?_ _)); refine blk_put (cs := #[.int .i64 t212, .slice Ao33 t213.length co33, .slice none 0 0]) ?_ 2 _ rfl; (with_reducible repeat (first | refine blk_drewN ?_ _ | refine blk_drew ?_ | refine blk_alloc ?_ _)); refine blk_put (cs := #[.int .i64 t212, .slice none 0 0, .slice none 0 0]) ?_ 1 _ rfl; (with_reducible repeat (first | refine blk_drewN ?_ _ | refine blk_drew ?_ | refine blk_alloc ?_ _)); refine blk_put (cs := #[.int .i64 0, .slice none 0 0, .slice none 0 0]) ?_ 0 _ rfl; (with_reducible repeat (first | refine blk_drewN ?_ _ | refine blk_drew ?_ | refine blk_alloc ?_ _)); exact BK219.out) hb); have n6_ := Aside0.mk (below_step (zb1 HB) hb); clear HO206 HO206F; clear HO209 HO209F; clear HO215 HO215F; clear HO218 HO218F; clear BK201; clear BK219; clear HB; have HO206 := n0_; have HO206F := n0F_; have HO209 := n1_; have HO209F := n1F_; have HO215 := n2_; have HO215F := n2F_; have HO218 := n3_; have HO218F := n3F_; have BK201 := n4_; have BK219 := n5_; have HB := n6_; clear n0_ n1_ n2_ n3_ n4_ n5_ n6_ n0F_ n1F_ n2F_ n3F_; (try clear hb); (try clear hb2); (try clear hk); (try clear hi)))
       have n0_ := Aside0.mk (Kd.R_drew HO206.out)
       have n0F_ := Aside0.mk (Kd.R_drew HO206F.out)
       have n1_ := Aside0.mk (Kd.R_drew HO209.out)
       have n1F_ := Aside0.mk (Kd.R_drew HO209F.out)
       have n2_ := Aside0.mk (Kd.R_drew HO215.out)
       have n2F_ := Aside0.mk (Kd.R_drew HO215F.out)
       have n3_ := Aside0.mk (Kd.R_drew HO218.out)
       have n3F_ := Aside0.mk (Kd.R_drew HO218F.out)
       have n4_ := Aside0.mk (blk_drew BK201.out)
       have n5_ := Aside0.mk (blk_drew BK219.out)
       have n6_ := Aside0.mk (below_drew1 HB.out)
       clear HO206 HO206F HO209 HO209F HO215 HO215F HO218 HO218F BK201 BK219 HB
       have HO206 := n0_; have HO206F := n0F_; have HO209 := n1_; have HO209F := n1F_; have HO215 := n2_; have HO215F := n2F_; have HO218 := n3_; have HO218F := n3F_; have BK201 := n4_; have BK219 := n5_; have HB := n6_
       clear n0_ n1_ n2_ n3_ n4_ n5_ n6_ n0F_ n1F_ n2F_ n3F_
       refine start_ (n := 5) (S := fun w' => w'.cell? ⟨gb219, 0, none⟩ = some (.int .i64 t212) ∧ w'.cell? ⟨gb219, 1, none⟩ = some (.slice Ao33 t213.length co33) ∧ w'.cell? ⟨gb219, 2, none⟩ = some (.slice Ao34 t216.length co34) ∧ w'.cell? ⟨gb201, 0, none⟩ = some (.int .i64 a0_0) ∧ w'.cell? ⟨gb201, 1, none⟩ = some (.slice A0_1 l0_1.length c0_1) ∧ w'.cell? ⟨gb201, 2, none⟩ = some (.slice A0_2 l0_2.length c0_2)) (ds := []) #[false, false, false, false, false] (by kernel_rfl) rfl rfl ⟨zc BK219 0, zc BK219 1, zc BK219 2, zc BK201 0, zc BK201 1, zc BK201 2⟩ (fun hHeld => ?_)
       generalize w35.drew = w36 at HO206 HO209 HO215 HO218 BK201 BK219 HB hHeld HO206F HO209F HO215F HO218F ⊢
       refine take_ (i := 0) (N := some 37) (v := ?_) (a' := ?_) #[true, false, false, false, false] rfl rfl (by kernel_rfl) (fun _ _ _ h => h) (Or.inl ⟨by rfl, ?_⟩) hHeld ?_ ?_
       rotate_left
       ·
        rintro w' ⟨s0, s1, s2, s3, s4, s5⟩
        go_simp
        with_reducible rfl
       rotate_left
       ·
        simp only [Act.put, List.setIfInBounds_toArray, List.set_cons_zero, List.set_cons_succ, i64_w, i32_w]
        rfl
       refine take_ (i := 1) (N := some 38) (v := ?_) (a' := ?_) #[true, true, false, false, false] rfl rfl (by kernel_rfl) (fun _ _ _ h => h) (Or.inl ⟨by rfl, ?_⟩) hHeld ?_ ?_
       rotate_left
       ·
        rintro w' ⟨s0, s1, s2, s3, s4, s5⟩
        go_simp
        with_reducible rfl
       rotate_left
       ·
        simp only [Act.put, List.setIfInBounds_toArray, List.set_cons_zero, List.set_cons_succ, i64_w, i32_w]
        rfl
       refine one_ (i := 2) (N := some 39) #[true, true, true, false, false] rfl rfl (by kernel_rfl) (by decide) (fun K hK => ?_)
       refine goes_ Try.func16 (by kernel_rfl) rfl #[.agg #[.int .i64 a0_0, .slice A0_1 l0_1.length c0_1, .slice A0_2 l0_2.length c0_2], .bool false] (by rfl) rfl rfl zq6 ?_
       with_reducible refine (laws_toBox.calls k a0_0 _ _ l0_1 _ _ l0_2 false t222 t223 t226 _ ?side1 ?side2 ?side3 ?side4 A13.out).mono ?_
       (case side1 => repeat (first | exact (Kd.C_below HR0_1.out HB.out) | (with_reducible refine Kd.C_alloc ?_ _) | (with_reducible refine Kd.C_drewN ?_ _) | (with_reducible refine Kd.C_drew ?_)))
       (case side2 => exact HC0_1.out)
       (case side3 => repeat (first | exact (Kd.C_below HR0_2.out HB.out) | (with_reducible refine Kd.C_alloc ?_ _) | (with_reducible refine Kd.C_drewN ?_ _) | (with_reducible refine Kd.C_drew ?_)))
       (case side4 => exact HC0_2.out)
       rintro e w37 ⟨v224, v227, rfl, ho0, ho1, hb, ho0F, ho1F⟩
       refine ⟨_, rfl, ?_⟩
       have n0_ := Aside0.mk (Kd.R_mono (Kd.R_told (Kd.R_told (Kd.R_old (zq3 HO206) hb) (Kd.R_base ho0)) (Kd.R_base ho1)) (fun _ h_ => h_.1))
       have n0F_ := Aside0.mk (Kd.R_mono (Kd.R_told (Kd.R_told (Kd.R_old (zq3 HO206F) hb) (Kd.R_base ho0)) (Kd.R_base ho1)) (fun _ h_ => h_.1))
       have n1_ := Aside0.mk (Kd.R_mono (Kd.R_told (Kd.R_told (Kd.R_old (zq3 HO209) hb) (Kd.R_base ho0)) (Kd.R_base ho1)) (fun _ h_ => h_.1))
       have n1F_ := Aside0.mk (Kd.R_mono (Kd.R_told (Kd.R_told (Kd.R_old (zq3 HO209F) hb) (Kd.R_base ho0)) (Kd.R_base ho1)) (fun _ h_ => h_.1))
       have n2_ := Aside0.mk (Kd.R_mono (Kd.R_told (Kd.R_told (Kd.R_old (zq3 HO215) hb) (Kd.R_base ho0)) (Kd.R_base ho1)) (fun _ h_ => h_.1))
       have n2F_ := Aside0.mk (Kd.R_mono (Kd.R_told (Kd.R_told (Kd.R_old (zq3 HO215F) hb) (Kd.R_base ho0)) (Kd.R_base ho1)) (fun _ h_ => h_.1))
       have n3_ := Aside0.mk (Kd.R_mono (Kd.R_told (Kd.R_told (Kd.R_old (zq3 HO218) hb) (Kd.R_base ho0)) (Kd.R_base ho1)) (fun _ h_ => h_.1))
       have n3F_ := Aside0.mk (Kd.R_mono (Kd.R_told (Kd.R_told (Kd.R_old (zq3 HO218F) hb) (Kd.R_base ho0)) (Kd.R_base ho1)) (fun _ h_ => h_.1))
       have n4_ := Aside0.mk (Kd.R_lower (Kd.R_new' (Kd.R_new' (Kd.R_new' (Kd.R_new' ho0 (Kd.R_lt (zq3 HO206))) (Kd.R_lt (zq3 HO209))) (Kd.R_lt (zq3 HO215))) (Kd.R_lt (zq3 HO218))) (below_size (zb1 HB)))
       have n4F_ := Aside0.mk (Kd.R_lower (Kd.R_new' (Kd.R_new' (Kd.R_new' (Kd.R_new' ho0F (Kd.R_lt (zq3 HO206))) (Kd.R_lt (zq3 HO209))) (Kd.R_lt (zq3 HO215))) (Kd.R_lt (zq3 HO218))) (below_size (zb1 HB)))
       have n5_ := Aside0.mk (Kd.R_lower (Kd.R_new' (Kd.R_new' (Kd.R_new' (Kd.R_new' ho1 (Kd.R_lt (zq3 HO206))) (Kd.R_lt (zq3 HO209))) (Kd.R_lt (zq3 HO215))) (Kd.R_lt (zq3 HO218))) (below_size (zb1 HB)))
       have n5F_ := Aside0.mk (Kd.R_lower (Kd.R_new' (Kd.R_new' (Kd.R_new' (Kd.R_new' ho1F (Kd.R_lt (zq3 HO206))) (Kd.R_lt (zq3 HO209))) (Kd.R_lt (zq3 HO215))) (Kd.R_lt (zq3 HO218))) (below_size (zb1 HB)))
       have n6_ := Aside0.mk (zbb BK201 hb)
       have n7_ := Aside0.mk (zbb BK219 hb)
       have n8_ := Aside0.mk (below_step (zb1 HB) hb)
       clear HO206 HO206F HO209 HO209F HO215 HO215F HO218 HO218F BK201 BK219 HB
       have HO206 := n0_; have HO206F := n0F_; have HO209 := n1_; have HO209F := n1F_; have HO215 := n2_; have HO215F := n2F_; have HO218 := n3_; have HO218F := n3F_; have HO225 := n4_; have HO225F := n4F_; have HO228 := n5_; have HO228F := n5F_; have BK201 := n6_; have BK219 := n7_; have HB := n8_
       clear n0_ n1_ n2_ n3_ n4_ n5_ n6_ n7_ n8_ n0F_ n1F_ n2F_ n3F_ n4F_ n5F_
       (try clear hb)
       (try clear hb2)
       (try clear hk)
       (try clear hi)
       (try clear ho0)
       (try clear ho0F)
       (try clear ho1)
       (try clear ho1F)
       obtain ⟨Ao38, co38, eo38⟩ := Kd.R_slice HO225.out
       (first | subst eo38 | (injection eo38 with f1_ f2_ f3_; have f4_ := f1_.symm; have f5_ := f3_.symm; clear f1_ f2_ f3_; subst f4_; subst f5_))
       obtain ⟨Ao39, co39, eo39⟩ := Kd.R_slice HO228.out
       (first | subst eo39 | (injection eo39 with f1_ f2_ f3_; have f4_ := f1_.symm; have f5_ := f3_.symm; clear f1_ f2_ f3_; subst f4_; subst f5_))
       refine hK.out _ _ ⟨zc BK219 0, zc BK219 1, zc BK219 2, zc BK201 0, zc BK201 1, zc BK201 2⟩ (fun hHeld => ?_)
       clear hK K
       refine norm_ (a' := ?_) ?_ ?_
       rotate_left
       ·
        show Act.put _ (some 39) _ = _
        simp only [Act.put, List.setIfInBounds_toArray, List.set_cons_zero, List.set_cons_succ, i64_w, i32_w]; rfl
       refine one_ (i := 3) (N := some 40) #[true, true, true, true, false] rfl rfl (by kernel_rfl) (by decide) (fun K hK => ?_)
       refine goes_ Try.func18 (by kernel_rfl) rfl #[.agg #[.int .i64 t212, .slice Ao33 t213.length co33, .slice Ao34 t216.length co34], .agg #[.int .i64 t222, .slice Ao38 t223.length co38, .slice Ao39 t226.length co39]] (by rfl) rfl rfl zq6 ?_
       with_reducible refine (laws_intactBox.calls t212 _ _ t213 _ _ t216 t222 _ _ t223 _ _ t226 true _ ?side1 ?side2 ?side3 ?side4 ?side5 ?side6 ?side7 ?side8 A14.out ?sideF1 ?sideF2 ?sideF3 ?sideF4 ?sideF5 ?sideF6 ?sideF7 ?sideF8).mono ?_
       (case side1 => repeat (first | exact (Kd.R_reads' HO215.out).2.2 | (with_reducible refine Kd.C_alloc ?_ _) | (with_reducible refine Kd.C_drewN ?_ _) | (with_reducible refine Kd.C_drew ?_)))
       (case side2 => exact (Kd.R_reads' HO215.out).2.1)
       (case side3 => repeat (first | exact (Kd.R_reads' HO218.out).2.2 | (with_reducible refine Kd.C_alloc ?_ _) | (with_reducible refine Kd.C_drewN ?_ _) | (with_reducible refine Kd.C_drew ?_)))
       (case side4 => exact (Kd.R_reads' HO218.out).2.1)
       (case side5 => repeat (first | exact (Kd.R_reads' HO225.out).2.2 | (with_reducible refine Kd.C_alloc ?_ _) | (with_reducible refine Kd.C_drewN ?_ _) | (with_reducible refine Kd.C_drew ?_)))
       (case side6 => exact (Kd.R_reads' HO225.out).2.1)
       (case side7 => repeat (first | exact (Kd.R_reads' HO228.out).2.2 | (with_reducible refine Kd.C_alloc ?_ _) | (with_reducible refine Kd.C_drewN ?_ _) | (with_reducible refine Kd.C_drew ?_)))
       (case side8 => exact (Kd.R_reads' HO228.out).2.1)
       (case sideF1 => repeat (first | exact (Kd.R_reads' HO215F.out).2.2 | (with_reducible refine Kd.C_alloc ?_ _) | (with_reducible refine Kd.C_drewN ?_ _) | (with_reducible refine Kd.C_drew ?_)))
       (case sideF2 => exact (Kd.R_reads' HO215F.out).2.1)
       (case sideF3 => repeat (first | exact (Kd.R_reads' HO218F.out).2.2 | (with_reducible refine Kd.C_alloc ?_ _) | (with_reducible refine Kd.C_drewN ?_ _) | (with_reducible refine Kd.C_drew ?_)))
       (case sideF4 => exact (Kd.R_reads' HO218F.out).2.1)
       (case sideF5 => repeat (first | exact (Kd.R_reads' HO225F.out).2.2 | (with_reducible refine Kd.C_alloc ?_ _) | (with_reducible refine Kd.C_drewN ?_ _) | (with_reducible refine Kd.C_drew ?_)))
       (case sideF6 => exact (Kd.R_reads' HO225F.out).2.1)
       (case sideF7 => repeat (first | exact (Kd.R_reads' HO228F.out).2.2 | (with_reducible refine Kd.C_alloc ?_ _) | (with_reducible refine Kd.C_drewN ?_ _) | (with_reducible refine Kd.C_drew ?_)))
       (case sideF8 => exact (Kd.R_reads' HO228F.out).2.1)
       rintro e w40 ⟨rfl, hb⟩
       refine ⟨_, rfl, ?_⟩
       have n0_ := Aside0.mk (Kd.R_below (zq3 HO206) hb)
       have n0F_ := Aside0.mk (Kd.R_below (zq3 HO206F) hb)
       have n1_ := Aside0.mk (Kd.R_below (zq3 HO209) hb)
       have n1F_ := Aside0.mk (Kd.R_below (zq3 HO209F) hb)
       have n2_ := Aside0.mk (Kd.R_below (zq3 HO215) hb)
       have n2F_ := Aside0.mk (Kd.R_below (zq3 HO215F) hb)
       have n3_ := Aside0.mk (Kd.R_below (zq3 HO218) hb)
       have n3F_ := Aside0.mk (Kd.R_below (zq3 HO218F) hb)
       have n4_ := Aside0.mk (Kd.R_below (zq3 HO225) hb)
       have n4F_ := Aside0.mk (Kd.R_below (zq3 HO225F) hb)
       have n5_ := Aside0.mk (Kd.R_below (zq3 HO228) hb)
       have n5F_ := Aside0.mk (Kd.R_below (zq3 HO228F) hb)
       have n6_ := Aside0.mk (zbb BK201 hb)
       have n7_ := Aside0.mk (zbb BK219 hb)
       have n8_ := Aside0.mk (below_step (zb1 HB) hb)
       clear HO206 HO206F HO209 HO209F HO215 HO215F HO218 HO218F HO225 HO225F HO228 HO228F BK201 BK219 HB
       have HO206 := n0_; have HO206F := n0F_; have HO209 := n1_; have HO209F := n1F_; have HO215 := n2_; have HO215F := n2F_; have HO218 := n3_; have HO218F := n3F_; have HO225 := n4_; have HO225F := n4F_; have HO228 := n5_; have HO228F := n5F_; have BK201 := n6_; have BK219 := n7_; have HB := n8_
       clear n0_ n1_ n2_ n3_ n4_ n5_ n6_ n7_ n8_ n0F_ n1F_ n2F_ n3F_ n4F_ n5F_
       (try clear hb)
       (try clear hb2)
       (try clear hk)
       (try clear hi)
       refine hK.out _ _ ⟨zc BK219 0, zc BK219 1, zc BK219 2, zc BK201 0, zc BK201 1, zc BK201 2⟩ (fun hHeld => ?_)
       clear hK K
       refine norm_ (a' := ?_) ?_ ?_
       rotate_left
       ·
        show Act.put _ (some 40) _ = _
        simp only [Act.put, List.setIfInBounds_toArray, List.set_cons_zero, List.set_cons_succ, i64_w, i32_w]; rfl
       refine pure_ (i := 4) (N := some 41) (v := ?_) (a' := ?_) #[true, true, true, true, true] rfl rfl (by kernel_rfl) (fun _ _ _ h => h) (Or.inl ⟨by rfl, ?_⟩) ?_ ?_
       rotate_left
       ·
        intro w'
        go_simp
        with_reducible rfl
       rotate_left
       ·
        simp only [Act.put, List.setIfInBounds_toArray, List.set_cons_zero, List.set_cons_succ, i64_w, i32_w]
        rfl
       refine done_ (by kernel_rfl) ?_
       have hcz41_0 : w40.cell? ⟨gb201, 0, none⟩ = some (.int .i64 a0_0) := zc BK201 0
       have hcz41_1 : w40.cell? ⟨gb201, 1, none⟩ = some (.slice A0_1 l0_1.length c0_1) := zc BK201 1
       have hcz41_2 : w40.cell? ⟨gb201, 2, none⟩ = some (.slice A0_2 l0_2.length c0_2) := zc BK201 2
       have hfz41_0 := blk_frozen BK201.out 0
       have hfz41_1 := blk_frozen BK201.out 1
       have hfz41_2 := blk_frozen BK201.out 2
       try go_wp2_with (first | ((with_reducible refine gate_callee (f := 16) rfl ?_); refine goesL_ (some 44) rfl rfl Try.func16 (by kernel_rfl) rfl #[.agg #[.int .i64 a0_0, .slice A0_1 l0_1.length c0_1, .slice A0_2 l0_2.length c0_2], .bool true] rfl zq6 ?_; (with_reducible refine (laws_toBox.calls k a0_0 _ _ l0_1 _ _ l0_2 true t230 t231 t234 _ ?side1 ?side2 ?side3 ?side4 A16.out).mono ?_); (case side1 => repeat (first | exact (Kd.C_below HR0_1.out HB.out) | (with_reducible refine Kd.C_alloc ?_ _) | (with_reducible refine Kd.C_drewN ?_ _) | (with_reducible refine Kd.C_drew ?_))); (case side2 => exact HC0_1.out); (case side3 => repeat (first | exact (Kd.C_below HR0_2.out HB.out) | (with_reducible refine Kd.C_alloc ?_ _) | (with_reducible refine Kd.C_drewN ?_ _) | (with_reducible refine Kd.C_drew ?_))); (case side4 => exact HC0_2.out); rintro e w42 ⟨v232, v235, rfl, ho0, ho1, hb, ho0F, ho1F⟩; refine ⟨_, rfl, ?_⟩; have n0_ := Aside0.mk (Kd.R_mono (Kd.R_told (Kd.R_told (Kd.R_old (zq3 HO206) hb) (Kd.R_base ho0)) (Kd.R_base ho1)) (fun _ h_ => h_.1)); have n0F_ := Aside0.mk (Kd.R_mono (Kd.R_told (Kd.R_told (Kd.R_old (zq3 HO206F) hb) (Kd.R_base ho0)) (Kd.R_base ho1)) (fun _ h_ => h_.1)); have n1_ := Aside0.mk (Kd.R_mono (Kd.R_told (Kd.R_told (Kd.R_old (zq3 HO209) hb) (Kd.R_base ho0)) (Kd.R_base ho1)) (fun _ h_ => h_.1)); have n1F_ := Aside0.mk (Kd.R_mono (Kd.R_told (Kd.R_told (Kd.R_old (zq3 HO209F) hb) (Kd.R_base ho0)) (Kd.R_base ho1)) (fun _ h_ => h_.1)); have n2_ := Aside0.mk (Kd.R_mono (Kd.R_told (Kd.R_told (Kd.R_old (zq3 HO215) hb) (Kd.R_base ho0)) (Kd.R_base ho1)) (fun _ h_ => h_.1)); have n2F_ := Aside0.mk (Kd.R_mono (Kd.R_told (Kd.R_told (Kd.R_old (zq3 HO215F) hb) (Kd.R_base ho0)) (Kd.R_base ho1)) (fun _ h_ => h_.1)); have n3_ := Aside0.mk (Kd.R_mono (Kd.R_told (Kd.R_told (Kd.R_old (zq3 HO218) hb) (Kd.R_base ho0)) (Kd.R_base ho1)) (fun _ h_ => h_.1)); have n3F_ := Aside0.mk (Kd.R_mono (Kd.R_told (Kd.R_told (Kd.R_old (zq3 HO218F) hb) (Kd.R_base ho0)) (Kd.R_base ho1)) (fun _ h_ => h_.1)); have n4_ := Aside0.mk (Kd.R_mono (Kd.R_told (Kd.R_told (Kd.R_old (zq3 HO225) hb) (Kd.R_base ho0)) (Kd.R_base ho1)) (fun _ h_ => h_.1)); have n4F_ := Aside0.mk (Kd.R_mono (Kd.R_told (Kd.R_told (Kd.R_old (zq3 HO225F) hb) (Kd.R_base ho0)) (Kd.R_base ho1)) (fun _ h_ => h_.1)); have n5_ := Aside0.mk (Kd.R_mono (Kd.R_told (Kd.R_told (Kd.R_old (zq3 HO228) hb) (Kd.R_base ho0)) (Kd.R_base ho1)) (fun _ h_ => h_.1)); have n5F_ := Aside0.mk (Kd.R_mono (Kd.R_told (Kd.R_told (Kd.R_old (zq3 HO228F) hb) (Kd.R_base ho0)) (Kd.R_base ho1)) (fun _ h_ => h_.1)); have n6_ := Aside0.mk (Kd.R_lower (Kd.R_new' (Kd.R_new' (Kd.R_new' (Kd.R_new' (Kd.R_new' (Kd.R_new' ho0 (Kd.R_lt (zq3 HO206))) (Kd.R_lt (zq3 HO209))) (Kd.R_lt (zq3 HO215))) (Kd.R_lt (zq3 HO218))) (Kd.R_lt (zq3 HO225))) (Kd.R_lt (zq3 HO228))) (below_size (zb1 HB))); have n6F_ := Aside0.mk (Kd.R_lower (Kd.R_new' (Kd.R_new' (Kd.R_new' (Kd.R_new' (Kd.R_new' (Kd.R_new' ho0F (Kd.R_lt (zq3 HO206))) (Kd.R_lt (zq3 HO209))) (Kd.R_lt (zq3 HO215))) (Kd.R_lt (zq3 HO218))) (Kd.R_lt (zq3 HO225))) (Kd.R_lt (zq3 HO228))) (below_size (zb1 HB))); have n7_ := Aside0.mk (Kd.R_lower (Kd.R_new' (Kd.R_new' (Kd.R_new' (Kd.R_new' (Kd.R_new' (Kd.R_new' ho1 (Kd.R_lt (zq3 HO206))) (Kd.R_lt (zq3 HO209))) (Kd.R_lt (zq3 HO215))) (Kd.R_lt (zq3 HO218))) (Kd.R_lt (zq3 HO225))) (Kd.R_lt (zq3 HO228))) (below_size (zb1 HB))); have n7F_ := Aside0.mk (Kd.R_lower (Kd.R_new' (Kd.R_new' (Kd.R_new' (Kd.R_new' (Kd.R_new' (Kd.R_new' ho1F (Kd.R_lt (zq3 HO206))) (Kd.R_lt (zq3 HO209))) (Kd.R_lt (zq3 HO215))) (Kd.R_lt (zq3 HO218))) (Kd.R_lt (zq3 HO225))) (Kd.R_lt (zq3 HO228))) (below_size (zb1 HB))); have n8_ := Aside0.mk (zbb BK201 hb); have n9_ := Aside0.mk (zbb BK219 hb); have n10_ := Aside0.mk (below_step (zb1 HB) hb); clear HO206 HO206F; clear HO209 HO209F; clear HO215 HO215F; clear HO218 HO218F; clear HO225 HO225F; clear HO228 HO228F; clear BK201; clear BK219; clear HB; have HO206 := n0_; have HO206F := n0F_; have HO209 := n1_; have HO209F := n1F_; have HO215 := n2_; have HO215F := n2F_; have HO218 := n3_; have HO218F := n3F_; have HO225 := n4_; have HO225F := n4F_; have HO228 := n5_; have HO228F := n5F_; have HO233 := n6_; have HO233F := n6F_; have HO236 := n7_; have HO236F := n7F_; have BK201 := n8_; have BK219 := n9_; have HB := n10_; clear n0_ n1_ n2_ n3_ n4_ n5_ n6_ n7_ n8_ n9_ n10_ n0F_ n1F_ n2F_ n3F_ n4F_ n5F_ n6F_ n7F_; (try clear hb); (try clear hb2); (try clear hk); (try clear hi); (try clear ho0); (try clear ho0F); (try clear ho1); (try clear ho1F); obtain ⟨Ao43, co43, eo43⟩ := Kd.R_slice HO233.out; subst eo43; obtain ⟨Ao44, co44, eo44⟩ := Kd.R_slice HO236.out; subst eo44) | ((with_reducible refine gate_callee (f := 20) rfl ?_); refine goesL_ (some 45) rfl rfl Try.func20 (by kernel_rfl) rfl #[.agg #[.int .i64 t230, .slice Ao43 t231.length co43, .slice Ao44 t234.length co44]] rfl zq6 ?_; (with_reducible refine (impl_WidestSide.calls k t230 _ _ t231 _ _ t234 t237 t238 _ ?side1 ?side2 ?side3 ?side4 A17.out).mono ?_); (case side1 => repeat (first | exact (Kd.R_reads' HO233.out).2.2 | (with_reducible refine Kd.C_alloc ?_ _) | (with_reducible refine Kd.C_drewN ?_ _) | (with_reducible refine Kd.C_drew ?_))); (case side2 => exact (Kd.R_reads' HO233.out).2.1); (case side3 => repeat (first | exact (Kd.R_reads' HO236.out).2.2 | (with_reducible refine Kd.C_alloc ?_ _) | (with_reducible refine Kd.C_drewN ?_ _) | (with_reducible refine Kd.C_drew ?_))); (case side4 => exact (Kd.R_reads' HO236.out).2.1); rintro e w45 ⟨rfl, hb⟩; refine ⟨_, rfl, ?_⟩; have n0_ := Aside0.mk (Kd.R_below (zq3 HO206) hb); have n0F_ := Aside0.mk (Kd.R_below (zq3 HO206F) hb); have n1_ := Aside0.mk (Kd.R_below (zq3 HO209) hb); have n1F_ := Aside0.mk (Kd.R_below (zq3 HO209F) hb); have n2_ := Aside0.mk (Kd.R_below (zq3 HO215) hb); have n2F_ := Aside0.mk (Kd.R_below (zq3 HO215F) hb); have n3_ := Aside0.mk (Kd.R_below (zq3 HO218) hb); have n3F_ := Aside0.mk (Kd.R_below (zq3 HO218F) hb); have n4_ := Aside0.mk (Kd.R_below (zq3 HO225) hb); have n4F_ := Aside0.mk (Kd.R_below (zq3 HO225F) hb); have n5_ := Aside0.mk (Kd.R_below (zq3 HO228) hb); have n5F_ := Aside0.mk (Kd.R_below (zq3 HO228F) hb); have n6_ := Aside0.mk (Kd.R_below (zq3 HO233) hb); have n6F_ := Aside0.mk (Kd.R_below (zq3 HO233F) hb); have n7_ := Aside0.mk (Kd.R_below (zq3 HO236) hb); have n7F_ := Aside0.mk (Kd.R_below (zq3 HO236F) hb); have n8_ := Aside0.mk (zbb BK201 hb); have n9_ := Aside0.mk (zbb BK219 hb); have n10_ := Aside0.mk (below_step (zb1 HB) hb); clear HO206 HO206F; clear HO209 HO209F; clear HO215 HO215F; clear HO218 HO218F; clear HO225 HO225F; clear HO228 HO228F; clear HO233 HO233F; clear HO236 HO236F; clear BK201; clear BK219; clear HB; have HO206 := n0_; have HO206F := n0F_; have HO209 := n1_; have HO209F := n1F_; have HO215 := n2_; have HO215F := n2F_; have HO218 := n3_; have HO218F := n3F_; have HO225 := n4_; have HO225F := n4F_; have HO228 := n5_; have HO228F := n5F_; have HO233 := n6_; have HO233F := n6F_; have HO236 := n7_; have HO236F := n7F_; have BK201 := n8_; have BK219 := n9_; have HB := n10_; clear n0_ n1_ n2_ n3_ n4_ n5_ n6_ n7_ n8_ n9_ n10_ n0F_ n1F_ n2F_ n3F_ n4F_ n5F_ n6F_ n7F_; (try clear hb); (try clear hb2); (try clear hk); (try clear hi)))
       go_ret
       exact ⟨by first | rfl | (simp [errW_none, errW_some] <;> rfl) | (simp [*, errW_none, errW_some] <;> rfl), (zb1 HB)⟩
     ·
      rw [if_neg c18] at H
      exact absurd H (by simp)
    ·
     replace c15 := Bool.eq_false_iff.mpr c15
     subst c15
     have H1 : (none) = some r := by rw [if_neg (show ¬ (false = true) by decide)] at H; exact H
     clear H
     have H := H1
     clear H1
     exact absurd H (by simp)
  ·
   rw [if_neg c11] at H
   exact absurd H (by simp)
end Go.Proofs.Ytgaoniapddpaaaa.PD
