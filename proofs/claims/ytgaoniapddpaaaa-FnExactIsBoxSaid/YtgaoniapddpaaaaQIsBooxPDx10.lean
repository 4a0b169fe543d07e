-- By wip/mk/drv.py
import Derived.Test.YtgaoniapddpaaaaQIsBooxPDx0
import Derived.Test.YtgaoniapddpaaaaQIsBooxPDx1
import Derived.Test.YtgaoniapddpaaaaQIsBooxPDx2
import Derived.Test.YtgaoniapddpaaaaQIsBooxPDx4
import Derived.Test.YtgaoniapddpaaaaQIsBooxPDx6
import Derived.Test.YtgaoniapddpaaaaQIsBooxPDx8
import Derived.Test.YtgaoniapddpaaaaQIsBooxPDx9
namespace Go.Proofs.Ytgaoniapddpaaaa.PD
open Go.RowKit Go.Proofs.YtgaoniapddpaaaaW.PrintWords Go.Proofs.YtgaoniapddpaaaaW.PrintLast Go.Proofs.YtgaoniapddpaaaaW.PrintMore
attribute [local go_sem] max2_int min2_int max_two min_two max_three min_three max_four min_four
set_option linter.unusedVariables false
set_option linter.unusedSimpArgs false
/-! ### laws_FnExactIsBox: function 3 -/
set_option maxHeartbeats 8000000 in
set_option maxRecDepth 100000 in
theorem laws_FnExactIsBox.calls (k : Nat) (a0_0 : Int) (A0_1 : Option Addr) (c0_1 : Nat) (l0_1 : List Int) (A0_2 : Option Addr) (c0_2 : Nat) (l0_2 : List Int) (r : Bool) (w : World) (hr0_1 : Kd.C (Kd.int .i64) w A0_1 l0_1.length l0_1) (hc0_1 : l0_1.length ≤ c0_1) (hr0_2 : Kd.C (Kd.int .i64) w A0_2 l0_2.length l0_2) (hc0_2 : l0_2.length ≤ c0_2) (h : laws_FnExactIsBox.f k a0_0 l0_1 l0_2 = some r) :
  Calls Try.prog 3 #[.agg #[.int .i64 a0_0, .slice A0_1 l0_1.length c0_1, .slice A0_2 l0_2.length c0_2]] w fun e w' => e = .returned (.bool r) ∧ Below w.heap.size w w' := by
 have hu24 := Try.underlying24
 have hu27 := Try.underlying27
 have HR0_1 := Aside0.mk hr0_1
 have HC0_1 := Aside0.mk hc0_1
 clear hr0_1 hc0_1
 have HR0_2 := Aside0.mk hr0_2
 have HC0_2 := Aside0.mk hc0_2
 clear hr0_2 hc0_2
 have HB := Aside0.mk (Below.refl w.heap.size w)
 have H : ((laws_szBox.f a0_0 l0_1 l0_2 1000000).bind fun t150 => (if t150 < 0 then (some true) else ((laws_toBox.f k a0_0 l0_1 l0_2 false).bind fun bt151 => ((spec_IsBox.f k bt151.1 bt151.2.1 bt151.2.2).bind fun t158 => ((laws_toBox.f k a0_0 l0_1 l0_2 false).bind fun bt159 => ((impl_IsBox.f k bt159.1 bt159.2.1 bt159.2.2).bind fun t167 => (if (t167 != t158) = true then (none) else ((laws_toBox.f k a0_0 l0_1 l0_2 false).bind fun bt168 => ((laws_intactBox.f bt159.1 bt159.2.1 bt159.2.2 bt168.1 bt168.2.1 bt168.2.2).bind fun t175 => (if t175 = true then ((laws_toBox.f k a0_0 l0_1 l0_2 true).bind fun bt176 => ((impl_IsBox.f k bt176.1 bt176.2.1 bt176.2.2).bind fun t183 => (if (t183 != t158) = true then (none) else (some true)))) else (none))))))))))) = some r := h
 clear h
 replace H := Option.bind_eq_some_iff.mp H
 obtain ⟨t150, A20, H⟩ := H
 replace H : (if t150 < 0 then (some true) else ((laws_toBox.f k a0_0 l0_1 l0_2 false).bind fun bt151 => ((spec_IsBox.f k bt151.1 bt151.2.1 bt151.2.2).bind fun t158 => ((laws_toBox.f k a0_0 l0_1 l0_2 false).bind fun bt159 => ((impl_IsBox.f k bt159.1 bt159.2.1 bt159.2.2).bind fun t167 => (if (t167 != t158) = true then (none) else ((laws_toBox.f k a0_0 l0_1 l0_2 false).bind fun bt168 => ((laws_intactBox.f bt159.1 bt159.2.1 bt159.2.2 bt168.1 bt168.2.1 bt168.2.2).bind fun t175 => (if t175 = true then ((laws_toBox.f k a0_0 l0_1 l0_2 true).bind fun bt176 => ((impl_IsBox.f k bt176.1 bt176.2.1 bt176.2.2).bind fun t183 => (if (t183 != t158) = true then (none) else (some true)))) else (none)))))))))) = some r := H
 have A2 := Aside0.mk A20
 clear A20
 by_cases c3 : t150 < 0
 ·
  rw [if_pos c3] at H
  have c3b0 : decide (t150 < 0) = true := decide_eq_true c3
  clear c3
  obtain rfl := Option.some.inj H
  go_enter Try.func3, Try.ntmps3
  go_wp2_with (first | ((with_reducible refine gate_dst (N := 1) rfl ?_); refine zbe (N := 1) (cs := #[.int .i64 a0_0, .slice A0_1 l0_1.length c0_1, .slice A0_2 l0_2.length c0_2]) (t := 24) ?_; intro gb149 hg w4 hbox hb; have BK149 := Aside0.mk (hbox); have GW149 := Aside0.mk (zge (zb0 HB) hg); have GE149 := GW149; replace HB := Aside0.mk (below_step (zb0 HB) hb); clear hb hbox hg; have hcz5_0 : w4.cell? ⟨gb149, 0, none⟩ = some (.int .i64 a0_0) := zc BK149 0; have hcz5_1 : w4.cell? ⟨gb149, 1, none⟩ = some (.slice A0_1 l0_1.length c0_1) := zc BK149 1; have hcz5_2 : w4.cell? ⟨gb149, 2, none⟩ = some (.slice A0_2 l0_2.length c0_2) := zc BK149 2; have hfz5_0 := blk_frozen BK149.out 0; have hfz5_1 := blk_frozen BK149.out 1; have hfz5_2 := blk_frozen BK149.out 2) | ((with_reducible refine gate_callee (f := 14) rfl ?_); refine goesL_ (some 10) rfl rfl Try.func14 (by kernel_rfl) rfl #[.agg #[.int .i64 a0_0, .slice A0_1 l0_1.length c0_1, .slice A0_2 l0_2.length c0_2], .int .i64 1000000] rfl zq6 ?_; (with_reducible refine (laws_szBox.calls a0_0 _ _ l0_1 _ _ l0_2 1000000 t150 _ ?side1 ?side2 ?side3 ?side4 A2.out).mono ?_); (case side1 => repeat (first | exact (Kd.C_below HR0_1.out HB.out) | (with_reducible refine Kd.C_alloc ?_ _) | (with_reducible refine Kd.C_drewN ?_ _) | (with_reducible refine Kd.C_drew ?_))); (case side2 => exact HC0_1.out); (case side3 => repeat (first | exact (Kd.C_below HR0_2.out HB.out) | (with_reducible refine Kd.C_alloc ?_ _) | (with_reducible refine Kd.C_drewN ?_ _) | (with_reducible refine Kd.C_drew ?_))); (case side4 => exact HC0_2.out); rintro e w6 ⟨rfl, hb⟩; refine ⟨_, rfl, ?_⟩; replace BK149 := Aside0.mk (zbb BK149 hb); replace HB := Aside0.mk (below_step (zb1 HB) hb); (try clear hb); (try clear hb2); (try clear hk); (try clear hi)))
  go_ret
  exact ⟨by first | rfl | (simp [errW_none, errW_some] <;> rfl) | (simp [*, errW_none, errW_some] <;> rfl), (zb1 HB)⟩
 ·
  rw [if_neg c3] at H
  have c3b0 : decide (t150 < 0) = false := decide_eq_false c3
  clear c3
  replace H := Option.bind_eq_some_iff.mp H
  obtain ⟨⟨t151, t152, t155⟩, A70, H⟩ := H
  replace H : ((spec_IsBox.f k t151 t152 t155).bind fun t158 => ((laws_toBox.f k a0_0 l0_1 l0_2 false).bind fun bt159 => ((impl_IsBox.f k bt159.1 bt159.2.1 bt159.2.2).bind fun t167 => (if (t167 != t158) = true then (none) else ((laws_toBox.f k a0_0 l0_1 l0_2 false).bind fun bt168 => ((laws_intactBox.f bt159.1 bt159.2.1 bt159.2.2 bt168.1 bt168.2.1 bt168.2.2).bind fun t175 => (if t175 = true then ((laws_toBox.f k a0_0 l0_1 l0_2 true).bind fun bt176 => ((impl_IsBox.f k bt176.1 bt176.2.1 bt176.2.2).bind fun t183 => (if (t183 != t158) = true then (none) else (some true)))) else (none)))))))) = some r := H
  have A7 := Aside0.mk A70
  clear A70
  replace H := Option.bind_eq_some_iff.mp H
  obtain ⟨t158, A80, H⟩ := H
  replace H : ((laws_toBox.f k a0_0 l0_1 l0_2 false).bind fun bt159 => ((impl_IsBox.f k bt159.1 bt159.2.1 bt159.2.2).bind fun t167 => (if (t167 != t158) = true then (none) else ((laws_toBox.f k a0_0 l0_1 l0_2 false).bind fun bt168 => ((laws_intactBox.f bt159.1 bt159.2.1 bt159.2.2 bt168.1 bt168.2.1 bt168.2.2).bind fun t175 => (if t175 = true then ((laws_toBox.f k a0_0 l0_1 l0_2 true).bind fun bt176 => ((impl_IsBox.f k bt176.1 bt176.2.1 bt176.2.2).bind fun t183 => (if (t183 != t158) = true then (none) else (some true)))) else (none))))))) = some r := H
  have A8 := Aside0.mk A80
  clear A80
  replace H := Option.bind_eq_some_iff.mp H
  obtain ⟨⟨t159, t160, t163⟩, A90, H⟩ := H
  replace H : ((impl_IsBox.f k t159 t160 t163).bind fun t167 => (if (t167 != t158) = true then (none) else ((laws_toBox.f k a0_0 l0_1 l0_2 false).bind fun bt168 => ((laws_intactBox.f t159 t160 t163 bt168.1 bt168.2.1 bt168.2.2).bind fun t175 => (if t175 = true then ((laws_toBox.f k a0_0 l0_1 l0_2 true).bind fun bt176 => ((impl_IsBox.f k bt176.1 bt176.2.1 bt176.2.2).bind fun t183 => (if (t183 != t158) = true then (none) else (some true)))) else (none)))))) = some r := H
  have A9 := Aside0.mk A90
  clear A90
  replace H := Option.bind_eq_some_iff.mp H
  obtain ⟨t167, A100, H⟩ := H
  replace H : (if (t167 != t158) = true then (none) else ((laws_toBox.f k a0_0 l0_1 l0_2 false).bind fun bt168 => ((laws_intactBox.f t159 t160 t163 bt168.1 bt168.2.1 bt168.2.2).bind fun t175 => (if t175 = true then ((laws_toBox.f k a0_0 l0_1 l0_2 true).bind fun bt176 => ((impl_IsBox.f k bt176.1 bt176.2.1 bt176.2.2).bind fun t183 => (if (t183 != t158) = true then (none) else (some true)))) else (none))))) = some r := H
  have A10 := Aside0.mk A100
  clear A100
  by_cases c11 : (t167 != t158) = true
  ·
   rw [if_pos c11] at H
   exact absurd H (by simp)
  ·
   rw [if_neg c11] at H
   have c11b0 : (t167 != t158) = false := by simpa using c11
   (try (have c11b1 : decide (t167 = t158) = true := by simpa using c11))
   (try (have c11b2 : (t167 == t158) = true := by simpa using c11))
   clear c11
   replace H := Option.bind_eq_some_iff.mp H
   obtain ⟨⟨t168, t169, t172⟩, A120, H⟩ := H
   replace H : ((laws_intactBox.f t159 t160 t163 t168 t169 t172).bind fun t175 => (if t175 = true then ((laws_toBox.f k a0_0 l0_1 l0_2 true).bind fun bt176 => ((impl_IsBox.f k bt176.1 bt176.2.1 bt176.2.2).bind fun t183 => (if (t183 != t158) = true then (none) else (some true)))) else (none))) = some r := H
   have A12 := Aside0.mk A120
   clear A120
   replace H := Option.bind_eq_some_iff.mp H
   obtain ⟨t175, A130, H⟩ := H
   replace H : (if t175 = true then ((laws_toBox.f k a0_0 l0_1 l0_2 true).bind fun bt176 => ((impl_IsBox.f k bt176.1 bt176.2.1 bt176.2.2).bind fun t183 => (if (t183 != t158) = true then (none) else (some true)))) else (none)) = some r := H
   have A13 := Aside0.mk A130
   clear A130
   by_cases c14 : t175 = true
   ·
    subst c14
    have H1 : ((laws_toBox.f k a0_0 l0_1 l0_2 true).bind fun bt176 => ((impl_IsBox.f k bt176.1 bt176.2.1 bt176.2.2).bind fun t183 => (if (t183 != t158) = true then (none) else (some true)))) = some r := by rw [if_pos rfl] at H; exact H
    clear H
    have H := H1
    clear H1
    replace H := Option.bind_eq_some_iff.mp H
    obtain ⟨⟨t176, t177, t180⟩, A150, H⟩ := H
    replace H : ((impl_IsBox.f k t176 t177 t180).bind fun t183 => (if (t183 != t158) = true then (none) else (some true))) = some r := H
    have A15 := Aside0.mk A150
    clear A150
    replace H := Option.bind_eq_some_iff.mp H
    obtain ⟨t183, A160, H⟩ := H
    replace H : (if (t183 != t158) = true then (none) else (some true)) = some r := H
    have A16 := Aside0.mk A160
    clear A160
    by_cases c17 : (t183 != t158) = true
    ·
     rw [if_pos c17] at H
     exact absurd H (by simp)
    ·
     rw [if_neg c17] at H
     have c17b0 : (t183 != t158) = false := by simpa using c17
     (try (have c17b1 : decide (t183 = t158) = true := by simpa using c17))
     (try (have c17b2 : (t183 == t158) = true := by simpa using c17))
     clear c17
     obtain rfl := Option.some.inj H
     go_enter Try.func3, Try.ntmps3
     try go_wp2_with (first | ((with_reducible refine gate_dst (N := 1) rfl ?_); refine zbe (N := 1) (cs := #[.int .i64 a0_0, .slice A0_1 l0_1.length c0_1, .slice A0_2 l0_2.length c0_2]) (t := 24) ?_; intro gb149 hg w18 hbox hb; have BK149 := Aside0.mk (hbox); have GW149 := Aside0.mk (zge (zb0 HB) hg); have GE149 := GW149; replace HB := Aside0.mk (below_step (zb0 HB) hb); clear hb hbox hg; have hcz19_0 : w18.cell? ⟨gb149, 0, none⟩ = some (.int .i64 a0_0) := zc BK149 0; have hcz19_1 : w18.cell? ⟨gb149, 1, none⟩ = some (.slice A0_1 l0_1.length c0_1) := zc BK149 1; have hcz19_2 : w18.cell? ⟨gb149, 2, none⟩ = some (.slice A0_2 l0_2.length c0_2) := zc BK149 2; have hfz19_0 := blk_frozen BK149.out 0; have hfz19_1 := blk_frozen BK149.out 1; have hfz19_2 := blk_frozen BK149.out 2) | ((with_reducible refine gate_callee (f := 14) rfl ?_); refine goesL_ (some 10) rfl rfl Try.func14 (by kernel_rfl) rfl #[.agg #[.int .i64 a0_0, .slice A0_1 l0_1.length c0_1, .slice A0_2 l0_2.length c0_2], .int .i64 1000000] rfl zq6 ?_; (with_reducible refine (laws_szBox.calls a0_0 _ _ l0_1 _ _ l0_2 1000000 t150 _ ?side1 ?side2 ?side3 ?side4 A2.out).mono ?_); (case side1 => repeat (first | exact (Kd.C_below HR0_1.out HB.out) | (with_reducible refine Kd.C_alloc ?_ _) | (with_reducible refine Kd.C_drewN ?_ _) | (with_reducible refine Kd.C_drew ?_))); (case side2 => exact HC0_1.out); (case side3 => repeat (first | exact (Kd.C_below HR0_2.out HB.out) | (with_reducible refine Kd.C_alloc ?_ _) | (with_reducible refine Kd.C_drewN ?_ _) | (with_reducible refine Kd.C_drew ?_))); (case side4 => exact HC0_2.out); rintro e w20 ⟨rfl, hb⟩; refine ⟨_, rfl, ?_⟩; replace BK149 := Aside0.mk (zbb BK149 hb); replace HB := Aside0.mk (below_step (zb1 HB) hb); (try clear hb); (try clear hb2); (try clear hk); (try clear hi); have hcz21_0 : w20.cell? ⟨gb149, 0, none⟩ = some (.int .i64 a0_0) := zc BK149 0; have hcz21_1 : w20.cell? ⟨gb149, 1, none⟩ = some (.slice A0_1 l0_1.length c0_1) := zc BK149 1; have hcz21_2 : w20.cell? ⟨gb149, 2, none⟩ = some (.slice A0_2 l0_2.length c0_2) := zc BK149 2; have hfz21_0 := blk_frozen BK149.out 0; have hfz21_1 := blk_frozen BK149.out 1; have hfz21_2 := blk_frozen BK149.out 2) | ((with_reducible refine gate_callee (f := 16) rfl ?_); refine goesL_ (some 14) rfl rfl Try.func16 (by kernel_rfl) rfl #[.agg #[.int .i64 a0_0, .slice A0_1 l0_1.length c0_1, .slice A0_2 l0_2.length c0_2], .bool false] rfl zq6 ?_; (with_reducible refine (laws_toBox.calls k a0_0 _ _ l0_1 _ _ l0_2 false t151 t152 t155 _ ?side1 ?side2 ?side3 ?side4 A7.out).mono ?_); (case side1 => repeat (first | exact (Kd.C_below HR0_1.out HB.out) | (with_reducible refine Kd.C_alloc ?_ _) | (with_reducible refine Kd.C_drewN ?_ _) | (with_reducible refine Kd.C_drew ?_))); (case side2 => exact HC0_1.out); (case side3 => repeat (first | exact (Kd.C_below HR0_2.out HB.out) | (with_reducible refine Kd.C_alloc ?_ _) | (with_reducible refine Kd.C_drewN ?_ _) | (with_reducible refine Kd.C_drew ?_))); (case side4 => exact HC0_2.out); rintro e w22 ⟨v153, v156, rfl, ho0, ho1, hb, ho0F, ho1F⟩; refine ⟨_, rfl, ?_⟩; have n0_ := Aside0.mk (Kd.R_lower ho0 (below_size (zb1 HB))); have n0F_ := Aside0.mk (Kd.R_lower ho0F (below_size (zb1 HB))); have n1_ := Aside0.mk (Kd.R_lower ho1 (below_size (zb1 HB))); have n1F_ := Aside0.mk (Kd.R_lower ho1F (below_size (zb1 HB))); have n2_ := Aside0.mk (zbb BK149 hb); have n3_ := Aside0.mk (below_step (zb1 HB) hb); clear BK149; clear HB; have HO154 := n0_; have HO154F := n0F_; have HO157 := n1_; have HO157F := n1F_; have BK149 := n2_; have HB := n3_; clear n0_ n1_ n2_ n3_ n0F_ n1F_; (try clear hb); (try clear hb2); (try clear hk); (try clear hi); (try clear ho0); (try clear ho0F); (try clear ho1); (try clear ho1F); obtain ⟨Ao23, co23, eo23⟩ := Kd.R_slice HO154.out; subst eo23; obtain ⟨Ao24, co24, eo24⟩ := Kd.R_slice HO157.out; subst eo24) | ((with_reducible refine gate_callee (f := 15) rfl ?_); refine goesL_ (some 15) rfl rfl Try.func15 (by kernel_rfl) rfl #[.agg #[.int .i64 t151, .slice Ao23 t152.length co23, .slice Ao24 t155.length co24]] rfl zq6 ?_; (with_reducible refine (spec_IsBox.calls k t151 _ _ t152 _ _ t155 t158 _ ?side1 ?side2 ?side3 ?side4 A8.out).mono ?_); (case side1 => repeat (first | exact (Kd.R_reads' HO154.out).2.2 | (with_reducible refine Kd.C_alloc ?_ _) | (with_reducible refine Kd.C_drewN ?_ _) | (with_reducible refine Kd.C_drew ?_))); (case side2 => exact (Kd.R_reads' HO154.out).2.1); (case side3 => repeat (first | exact (Kd.R_reads' HO157.out).2.2 | (with_reducible refine Kd.C_alloc ?_ _) | (with_reducible refine Kd.C_drewN ?_ _) | (with_reducible refine Kd.C_drew ?_))); (case side4 => exact (Kd.R_reads' HO157.out).2.1); rintro e w25 ⟨rfl, hb⟩; refine ⟨_, rfl, ?_⟩; have n0_ := Aside0.mk (Kd.R_below (zq3 HO154) hb); have n0F_ := Aside0.mk (Kd.R_below (zq3 HO154F) hb); have n1_ := Aside0.mk (Kd.R_below (zq3 HO157) hb); have n1F_ := Aside0.mk (Kd.R_below (zq3 HO157F) hb); have n2_ := Aside0.mk (zbb BK149 hb); have n3_ := Aside0.mk (below_step (zb1 HB) hb); clear HO154 HO154F; clear HO157 HO157F; clear BK149; clear HB; have HO154 := n0_; have HO154F := n0F_; have HO157 := n1_; have HO157F := n1F_; have BK149 := n2_; have HB := n3_; clear n0_ n1_ n2_ n3_ n0F_ n1F_; (try clear hb); (try clear hb2); (try clear hk); (try clear hi); have hcz26_0 : w25.cell? ⟨gb149, 0, none⟩ = some (.int .i64 a0_0) := zc BK149 0; have hcz26_1 : w25.cell? ⟨gb149, 1, none⟩ = some (.slice A0_1 l0_1.length c0_1) := zc BK149 1; have hcz26_2 : w25.cell? ⟨gb149, 2, none⟩ = some (.slice A0_2 l0_2.length c0_2) := zc BK149 2; have hfz26_0 := blk_frozen BK149.out 0; have hfz26_1 := blk_frozen BK149.out 1; have hfz26_2 := blk_frozen BK149.out 2) | ((with_reducible refine gate_callee (f := 16) rfl ?_); refine goesL_ (some 17) rfl rfl Try.func16 (by kernel_rfl) rfl #[.agg #[.int .i64 a0_0, .slice A0_1 l0_1.length c0_1, .slice A0_2 l0_2.length c0_2], .bool false] rfl zq6 ?_; (with_reducible refine (laws_toBox.calls k a0_0 _ _ l0_1 _ _ l0_2 false t159 t160 t163 _ ?side1 ?side2 ?side3 ?side4 A9.out).mono ?_); (case side1 => repeat (first | exact (Kd.C_below HR0_1.out HB.out) | (with_reducible refine Kd.C_alloc ?_ _) | (with_reducible refine Kd.C_drewN ?_ _) | (with_reducible refine Kd.C_drew ?_))); (case side2 => exact HC0_1.out); (case side3 => repeat (first | exact (Kd.C_below HR0_2.out HB.out) | (with_reducible refine Kd.C_alloc ?_ _) | (with_reducible refine Kd.C_drewN ?_ _) | (with_reducible refine Kd.C_drew ?_))); (case side4 => exact HC0_2.out); rintro e w27 ⟨v161, v164, rfl, ho0, ho1, hb, ho0F, ho1F⟩; refine ⟨_, rfl, ?_⟩; have n0_ := Aside0.mk (Kd.R_mono (Kd.R_told (Kd.R_told (Kd.R_old (zq3 HO154) hb) (Kd.R_base ho0)) (Kd.R_base ho1)) (fun _ h_ => h_.1)); have n0F_ := Aside0.mk (Kd.R_mono (Kd.R_told (Kd.R_told (Kd.R_old (zq3 HO154F) hb) (Kd.R_base ho0)) (Kd.R_base ho1)) (fun _ h_ => h_.1)); have n1_ := Aside0.mk (Kd.R_mono (Kd.R_told (Kd.R_told (Kd.R_old (zq3 HO157) hb) (Kd.R_base ho0)) (Kd.R_base ho1)) (fun _ h_ => h_.1)); have n1F_ := Aside0.mk (Kd.R_mono (Kd.R_told (Kd.R_told (Kd.R_old (zq3 HO157F) hb) (Kd.R_base ho0)) (Kd.R_base ho1)) (fun _ h_ => h_.1)); have n2_ := Aside0.mk (Kd.R_lower (Kd.R_new' (Kd.R_new' ho0 (Kd.R_lt (zq3 HO154))) (Kd.R_lt (zq3 HO157))) (below_size (zb1 HB))); have n2F_ := Aside0.mk (Kd.R_lower (Kd.R_new' (Kd.R_new' ho0F (Kd.R_lt (zq3 HO154))) (Kd.R_lt (zq3 HO157))) (below_size (zb1 HB))); have n3_ := Aside0.mk (Kd.R_lower (Kd.R_new' (Kd.R_new' ho1 (Kd.R_lt (zq3 HO154))) (Kd.R_lt (zq3 HO157))) (below_size (zb1 HB))); have n3F_ := Aside0.mk (Kd.R_lower (Kd.R_new' (Kd.R_new' ho1F (Kd.R_lt (zq3 HO154))) (Kd.R_lt (zq3 HO157))) (below_size (zb1 HB))); have n4_ := Aside0.mk (zbb BK149 hb); have n5_ := Aside0.mk (below_step (zb1 HB) hb); clear HO154 HO154F; clear HO157 HO157F; clear BK149; clear HB; have HO154 := n0_; have HO154F := n0F_; have HO157 := n1_; have HO157F := n1F_; have HO162 := n2_; have HO162F := n2F_; have HO165 := n3_; have HO165F := n3F_; have BK149 := n4_; have HB := n5_; clear n0_ n1_ n2_ n3_ n4_ n5_ n0F_ n1F_ n2F_ n3F_; (try clear hb); (try clear hb2); (try clear hk); (try clear hi); (try clear ho0); (try clear ho0F); (try clear ho1); (try clear ho1F)) | ((with_reducible refine gate_dst (N := 5) rfl ?_); refine zbe (N := 5) (cs := #[.int .i64 0, .slice none 0 0, .slice none 0 0]) (t := 27) ?_; intro gb166 hg w28 hbox hb; have n0_ := Aside0.mk (Kd.R_below (zq3 HO154) hb); have n0F_ := Aside0.mk (Kd.R_below (zq3 HO154F) hb); have n1_ := Aside0.mk (Kd.R_below (zq3 HO157) hb); have n1F_ := Aside0.mk (Kd.R_below (zq3 HO157F) hb); have n2_ := Aside0.mk (Kd.R_below (zq3 HO162) hb); have n2F_ := Aside0.mk (Kd.R_below (zq3 HO162F) hb); have n3_ := Aside0.mk (Kd.R_below (zq3 HO165) hb); have n3F_ := Aside0.mk (Kd.R_below (zq3 HO165F) hb); have n4_ := Aside0.mk (zbb BK149 hb); have n5_ := Aside0.mk (below_step (zb1 HB) hb); have n6_ := Aside0.mk (hbox); have n7_ := Aside0.mk (zge (zb1 HB) hg); have n8_ := Aside0.mk (zge (zb1 HB) hg); have n9_ := Aside0.mk (zlt BK149 hg); have n10_ := Aside0.mk (zgt BK149 hg); clear HO154 HO154F; clear HO157 HO157F; clear HO162 HO162F; clear HO165 HO165F; clear BK149; clear HB; have HO154 := n0_; have HO154F := n0F_; have HO157 := n1_; have HO157F := n1F_; have HO162 := n2_; have HO162F := n2F_; have HO165 := n3_; have HO165F := n3F_; have BK149 := n4_; have HB := n5_; have BK166 := n6_; have GW166 := n7_; have GE166 := n8_; have NB149_166 := n9_; have NB166_149 := n10_; clear n0_ n1_ n2_ n3_ n4_ n5_ n6_ n7_ n8_ n9_ n10_ n0F_ n1F_ n2F_ n3F_; clear hb hbox hg; have hnb29 := NB166_149.out; have hnc29 := NB149_166.out; have hcz30_0 : w28.cell? ⟨gb166, 0, none⟩ = some (.int .i64 0) := zc BK166 0; have hcz30_1 : w28.cell? ⟨gb166, 1, none⟩ = some (.slice none 0 0) := zc BK166 1; have hcz30_2 : w28.cell? ⟨gb166, 2, none⟩ = some (.slice none 0 0) := zc BK166 2; have hfz30_0 := blk_frozen BK166.out 0; have hfz30_1 := blk_frozen BK166.out 1; have hfz30_2 := blk_frozen BK166.out 2; obtain ⟨Ao31, co31, eo31⟩ := Kd.R_slice HO162.out; subst eo31; obtain ⟨Ao32, co32, eo32⟩ := Kd.R_slice HO165.out; subst eo32) | ((with_reducible refine gate_callee (f := 17) rfl ?_); refine goesL_ (some 19) rfl rfl Try.func17 (by kernel_rfl) rfl #[.agg #[.int .i64 t159, .slice Ao31 t160.length co31, .slice Ao32 t163.length co32]] rfl zq6 ?_; (with_reducible refine (impl_IsBox.calls k t159 _ _ t160 _ _ t163 t167 _ ?side1 ?side2 ?side3 ?side4 A10.out).mono ?_); (case side1 => refine (Kd.R_reads' (e := 3) (base := w.heap.size) (ok := fun k_ => ((some k_ ≠ (.slice Ao32 t163.length co32 : Value).ownBlock ∧ some k_ ≠ (.slice Ao23 t152.length co23 : Value).ownBlock) ∧ some k_ ≠ (.slice Ao24 t155.length co24 : Value).ownBlock)) (n := t160.length) (c := co31) ?_).2.2; exact (by (with_reducible repeat (first | apply Kd.R_alloc | apply Kd.R_drewN | apply Kd.R_drew)); exact (Kd.R_mono (Kd.R_far (p := ⟨gb166, 2, none⟩) (Kd.R_far (p := ⟨gb166, 1, none⟩) (Kd.R_far (p := ⟨gb166, 0, none⟩) (Kd.R_types HO162.out BK166.out (by decide)) (fun _ hk => hk.2) (.int .i64 t159)) (fun _ hk => hk.2) (.slice Ao31 t160.length co31)) (fun _ hk => hk.2) (.slice Ao32 t163.length co32)) (fun _ h_ => h_.1)))); (case side2 => exact (Kd.R_reads' HO162.out).2.1); (case side3 => refine (Kd.R_reads' (e := 3) (base := w.heap.size) (ok := fun k_ => ((some k_ ≠ (.slice Ao31 t160.length co31 : Value).ownBlock ∧ some k_ ≠ (.slice Ao23 t152.length co23 : Value).ownBlock) ∧ some k_ ≠ (.slice Ao24 t155.length co24 : Value).ownBlock)) (n := t163.length) (c := co32) ?_).2.2; exact (by (with_reducible repeat (first | apply Kd.R_alloc | apply Kd.R_drewN | apply Kd.R_drew)); exact (Kd.R_mono (Kd.R_far (p := ⟨gb166, 2, none⟩) (Kd.R_far (p := ⟨gb166, 1, none⟩) (Kd.R_far (p := ⟨gb166, 0, none⟩) (Kd.R_types HO165.out BK166.out (by decide)) (fun _ hk => hk.2) (.int .i64 t159)) (fun _ hk => hk.2) (.slice Ao31 t160.length co31)) (fun _ hk => hk.2) (.slice Ao32 t163.length co32)) (fun _ h_ => h_.1)))); (case side4 => exact (Kd.R_reads' HO165.out).2.1); rintro e w33 ⟨rfl, hb⟩; refine ⟨_, rfl, ?_⟩; have n0_ := Aside0.mk (Kd.R_below (by (with_reducible repeat (first | apply Kd.R_alloc | apply Kd.R_drewN | apply Kd.R_drew)); exact (Kd.R_mono (Kd.R_far (p := ⟨gb166, 2, none⟩) (Kd.R_far (p := ⟨gb166, 1, none⟩) (Kd.R_far (p := ⟨gb166, 0, none⟩) (Kd.R_types HO154.out BK166.out (by decide)) (fun _ hk => hk.2) (.int .i64 t159)) (fun _ hk => hk.2) (.slice Ao31 t160.length co31)) (fun _ hk => hk.2) (.slice Ao32 t163.length co32)) (fun _ h_ => h_.1))) hb); have n0F_ := Aside0.mk (Kd.R_below (by (with_reducible repeat (first | apply Kd.R_alloc | apply Kd.R_drewN | apply Kd.R_drew)); exact (Kd.R_mono (Kd.R_far (p := ⟨gb166, 2, none⟩) (Kd.R_far (p := ⟨gb166, 1, none⟩) (Kd.R_far (p := ⟨gb166, 0, none⟩) (Kd.R_types HO154F.out BK166.out (by decide)) (fun _ hk => hk.2) (.int .i64 t159)) (fun _ hk => hk.2) (.slice Ao31 t160.length co31)) (fun _ hk => hk.2) (.slice Ao32 t163.length co32)) (fun _ h_ => h_.1))) hb); have n1_ := Aside0.mk (Kd.R_below (by (with_reducible repeat (first | apply Kd.R_alloc | apply Kd.R_drewN | apply Kd.R_drew)); exact (Kd.R_mono (Kd.R_far (p := ⟨gb166, 2, none⟩) (Kd.R_far (p := ⟨gb166, 1, none⟩) (Kd.R_far (p := ⟨gb166, 0, none⟩) (Kd.R_types HO157.out BK166.out (by decide)) (fun _ hk => hk.2) (.int .i64 t159)) (fun _ hk => hk.2) (.slice Ao31 t160.length co31)) (fun _ hk => hk.2) (.slice Ao32 t163.length co32)) (fun _ h_ => h_.1))) hb); have n1F_ := Aside0.mk (Kd.R_below (by (with_reducible repeat (first | apply Kd.R_alloc | apply Kd.R_drewN | apply Kd.R_drew)); exact (Kd.R_mono (Kd.R_far (p := ⟨gb166, 2, none⟩) (Kd.R_far (p := ⟨gb166, 1, none⟩) (Kd.R_far (p := ⟨gb166, 0, none⟩) (Kd.R_types HO157F.out BK166.out (by decide)) (fun _ hk => hk.2) (.int .i64 t159)) (fun _ hk => hk.2) (.slice Ao31 t160.length co31)) (fun _ hk => hk.2) (.slice Ao32 t163.length co32)) (fun _ h_ => h_.1))) hb); have n2_ := Aside0.mk (Kd.R_below (by (with_reducible repeat (first | apply Kd.R_alloc | apply Kd.R_drewN | apply Kd.R_drew)); exact (Kd.R_mono (Kd.R_far (p := ⟨gb166, 2, none⟩) (Kd.R_far (p := ⟨gb166, 1, none⟩) (Kd.R_far (p := ⟨gb166, 0, none⟩) (Kd.R_types HO162.out BK166.out (by decide)) (fun _ hk => hk.2) (.int .i64 t159)) (fun _ hk => hk.2) (.slice Ao31 t160.length co31)) (fun _ hk => hk.2) (.slice Ao32 t163.length co32)) (fun _ h_ => h_.1))) hb); have n2F_ := Aside0.mk (Kd.R_below (by (with_reducible repeat (first | apply Kd.R_alloc | apply Kd.R_drewN | apply Kd.R_drew)); exact (Kd.R_mono (Kd.R_far (p := ⟨gb166, 2, none⟩) (Kd.R_far (p := ⟨gb166, 1, none⟩) (Kd.R_far (p := ⟨gb166, 0, none⟩) (Kd.R_types HO162F.out BK166.out (by decide)) (fun _ hk => hk.2) (.int .i64 t159)) (fun _ hk => hk.2) (.slice Ao31 t160.length co31)) (fun _ hk => hk.2) (.slice Ao32 t163.length co32)) (fun _ h_ => h_.1))) hb); have n3_ := Aside0.mk (Kd.R_below (by (with_reducible repeat (first | apply Kd.R_alloc | apply Kd.R_drewN | apply Kd.R_drew)); exact (Kd.R_mono (Kd.R_far (p := ⟨gb166, 2, none⟩) (Kd.R_far (p := ⟨gb166, 1, none⟩) (Kd.R_far (p := ⟨gb166, 0, none⟩) (Kd.R_types HO165.out BK166.out (by decide)) (fun _ hk => hk.2) (.int .i64 t159)) (fun _ hk => hk.2) (.slice Ao31 t160.length co31)) (fun _ hk => hk.2) (.slice Ao32 t163.length co32)) (fun _ h_ => h_.1))) hb); have n3F_ := Aside0.mk (Kd.R_below (by (with_reducible repeat (first | apply Kd.R_alloc | apply Kd.R_drewN | apply Kd.R_drew)); exact (Kd.R_mono (Kd.R_far (p := ⟨gb166, 2, none⟩) (Kd.R_far (p := ⟨gb166, 1, none⟩) (Kd.R_far (p := ⟨gb166, 0, none⟩) (Kd.R_types HO165F.out BK166.out (by decide)) (fun _ hk => hk.2) (.int .i64 t159)) (fun _ hk => hk.2) (.slice Ao31 t160.length co31)) (fun _ hk => hk.2) (.slice Ao32 t163.length co32)) (fun _ h_ => h_.1))) hb); have n4_ := Aside0.mk (blk_below (g := gb149) (o := .cells #[.int .i64 a0_0, .slice A0_1 l0_1.length c0_1, .slice A0_2 l0_2.length c0_2] 24 (0, 0)) (zq5 BK149) hb); have n5_ := Aside0.mk (blk_below (g := gb166) (o := .cells #[.int .i64 t159, .slice Ao31 t160.length co31, .slice Ao32 t163.length co32] 27 (0, 0)) (by (with_reducible repeat (first | refine blk_drewN ?_ _ | refine blk_drew ?_ | refine blk_alloc ?_ _)); refine blk_put (cs := #[.int .i64 t159, .slice Ao31 t160.length co31, .slice none 0 0]) ?_ 2 _ rfl; (with_reducible repeat (first | refine blk_drewN ?_ _ | refine blk_drew ?_ | refine blk_alloc ?_ _)); refine blk_put (cs := #[.int .i64 t159, .slice none 0 0, .slice none 0 0]) ?_ 1 _ rfl; (with_reducible repeat (first | refine blk_drewN ?_ _ | refine blk_drew ?_ | refine blk_alloc ?_ _)); refine blk_put (cs := #[.int .i64 0, .slice none 0 0, .slice none 0 0]) ?_ 0 _ rfl; (with_reducible repeat (first | refine blk_drewN ?_ _ | refine blk_drew ?_ | refine blk_alloc ?_ _)); exact BK166.out) hb); have n6_ := Aside0.mk (below_step (zb1 HB) hb); clear HO154 HO154F; clear HO157 HO157F; clear HO162 HO162F; clear HO165 HO165F; clear BK149; clear BK166; clear HB; have HO154 := n0_; have HO154F := n0F_; have HO157 := n1_; have HO157F := n1F_; have HO162 := n2_; have HO162F := n2F_; have HO165 := n3_; have HO165F := n3F_; have BK149 := n4_; have BK166 := n5_; have HB := n6_; clear n0_ n1_ n2_ n3_ n4_ n5_ n6_ n0F_ n1F_ n2F_ n3F_; (try clear hb); (try clear hb2); (try clear hk); (try clear hi)))
     have n0_ := Aside0.mk (Kd.R_drew HO154.out)
     have n0F_ := Aside0.mk (Kd.R_drew HO154F.out)
     have n1_ := Aside0.mk (Kd.R_drew HO157.out)
     have n1F_ := Aside0.mk (Kd.R_drew HO157F.out)
     have n2_ := Aside0.mk (Kd.R_drew HO162.out)
     have n2F_ := Aside0.mk (Kd.R_drew HO162F.out)
     have n3_ := Aside0.mk (Kd.R_drew HO165.out)
     have n3F_ := Aside0.mk (Kd.R_drew HO165F.out)
     have n4_ := Aside0.mk (blk_drew BK149.out)
     have n5_ := Aside0.mk (blk_drew BK166.out)
     have n6_ := Aside0.mk (below_drew1 HB.out)
     clear HO154 HO154F HO157 HO157F HO162 HO162F HO165 HO165F BK149 BK166 HB
     have HO154 := n0_; have HO154F := n0F_; have HO157 := n1_; have HO157F := n1F_; have HO162 := n2_; have HO162F := n2F_; have HO165 := n3_; have HO165F := n3F_; have BK149 := n4_; have BK166 := n5_; have HB := n6_
     clear n0_ n1_ n2_ n3_ n4_ n5_ n6_ n0F_ n1F_ n2F_ n3F_
     refine start_ (n := 5) (S := fun w' => w'.cell? ⟨gb166, 0, none⟩ = some (.int .i64 t159) ∧ w'.cell? ⟨gb166, 1, none⟩ = some (.slice Ao31 t160.length co31) ∧ w'.cell? ⟨gb166, 2, none⟩ = some (.slice Ao32 t163.length co32) ∧ w'.cell? ⟨gb149, 0, none⟩ = some (.int .i64 a0_0) ∧ w'.cell? ⟨gb149, 1, none⟩ = some (.slice A0_1 l0_1.length c0_1) ∧ w'.cell? ⟨gb149, 2, none⟩ = some (.slice A0_2 l0_2.length c0_2)) (ds := []) #[false, false, false, false, false] (by kernel_rfl) rfl rfl ⟨zc BK166 0, zc BK166 1, zc BK166 2, zc BK149 0, zc BK149 1, zc BK149 2⟩ (fun hHeld => ?_)
     generalize w33.drew = w34 at HO154 HO157 HO162 HO165 BK149 BK166 HB hHeld HO154F HO157F HO162F HO165F ⊢
     refine take_ (i := 0) (N := some 23) (v := ?_) (a' := ?_) #[true, false, false, false, false] rfl rfl (by kernel_rfl) (fun _ _ _ h => h) (Or.inl ⟨by rfl, ?_⟩) hHeld ?_ ?_
     rotate_left
     ·
      rintro w' ⟨s0, s1, s2, s3, s4, s5⟩
      go_simp
      with_reducible rfl
     rotate_left
     ·
      simp only [Act.put, List.setIfInBounds_toArray, List.set_cons_zero, List.set_cons_succ, i64_w, i32_w]
      rfl
     refine take_ (i := 1) (N := some 24) (v := ?_) (a' := ?_) #[true, true, false, false, false] rfl rfl (by kernel_rfl) (fun _ _ _ h => h) (Or.inl ⟨by rfl, ?_⟩) hHeld ?_ ?_
     rotate_left
     ·
      rintro w' ⟨s0, s1, s2, s3, s4, s5⟩
      go_simp
      with_reducible rfl
     rotate_left
     ·
      simp only [Act.put, List.setIfInBounds_toArray, List.set_cons_zero, List.set_cons_succ, i64_w, i32_w]
      rfl
     refine one_ (i := 2) (N := some 25) #[true, true, true, false, false] rfl rfl (by kernel_rfl) (by decide) (fun K hK => ?_)
     refine goes_ Try.func16 (by kernel_rfl) rfl #[.agg #[.int .i64 a0_0, .slice A0_1 l0_1.length c0_1, .slice A0_2 l0_2.length c0_2], .bool false] (by rfl) rfl rfl zq6 ?_
     with_reducible refine (laws_toBox.calls k a0_0 _ _ l0_1 _ _ l0_2 false t168 t169 t172 _ ?side1 ?side2 ?side3 ?side4 A12.out).mono ?_
     (case side1 => repeat (first | exact (Kd.C_below HR0_1.out HB.out) | (with_reducible refine Kd.C_alloc ?_ _) | (with_reducible refine Kd.C_drewN ?_ _) | (with_reducible refine Kd.C_drew ?_)))
     (case side2 => exact HC0_1.out)
     (case side3 => repeat (first | exact (Kd.C_below HR0_2.out HB.out) | (with_reducible refine Kd.C_alloc ?_ _) | (with_reducible refine Kd.C_drewN ?_ _) | (with_reducible refine Kd.C_drew ?_)))
     (case side4 => exact HC0_2.out)
     rintro e w35 ⟨v170, v173, rfl, ho0, ho1, hb, ho0F, ho1F⟩
     refine ⟨_, rfl, ?_⟩
     have n0_ := Aside0.mk (Kd.R_mono (Kd.R_told (Kd.R_told (Kd.R_old (zq3 HO154) hb) (Kd.R_base ho0)) (Kd.R_base ho1)) (fun _ h_ => h_.1))
     have n0F_ := Aside0.mk (Kd.R_mono (Kd.R_told (Kd.R_told (Kd.R_old (zq3 HO154F) hb) (Kd.R_base ho0)) (Kd.R_base ho1)) (fun _ h_ => h_.1))
     have n1_ := Aside0.mk (Kd.R_mono (Kd.R_told (Kd.R_told (Kd.R_old (zq3 HO157) hb) (Kd.R_base ho0)) (Kd.R_base ho1)) (fun _ h_ => h_.1))
     have n1F_ := Aside0.mk (Kd.R_mono (Kd.R_told (Kd.R_told (Kd.R_old (zq3 HO157F) hb) (Kd.R_base ho0)) (Kd.R_base ho1)) (fun _ h_ => h_.1))
     have n2_ := Aside0.mk (Kd.R_mono (Kd.R_told (Kd.R_told (Kd.R_old (zq3 HO162) hb) (Kd.R_base ho0)) (Kd.R_base ho1)) (fun _ h_ => h_.1))
     have n2F_ := Aside0.mk (Kd.R_mono (Kd.R_told (Kd.R_told (Kd.R_old (zq3 HO162F) hb) (Kd.R_base ho0)) (Kd.R_base ho1)) (fun _ h_ => h_.1))
     have n3_ := Aside0.mk (Kd.R_mono (Kd.R_told (Kd.R_told (Kd.R_old (zq3 HO165) hb) (Kd.R_base ho0)) (Kd.R_base ho1)) (fun _ h_ => h_.1))
     have n3F_ := Aside0.mk (Kd.R_mono (Kd.R_told (Kd.R_told (Kd.R_old (zq3 HO165F) hb) (Kd.R_base ho0)) (Kd.R_base ho1)) (fun _ h_ => h_.1))
     have n4_ := Aside0.mk (Kd.R_lower (Kd.R_new' (Kd.R_new' (Kd.R_new' (Kd.R_new' ho0 (Kd.R_lt (zq3 HO154))) (Kd.R_lt (zq3 HO157))) (Kd.R_lt (zq3 HO162))) (Kd.R_lt (zq3 HO165))) (below_size (zb1 HB)))
     have n4F_ := Aside0.mk (Kd.R_lower (Kd.R_new' (Kd.R_new' (Kd.R_new' (Kd.R_new' ho0F (Kd.R_lt (zq3 HO154))) (Kd.R_lt (zq3 HO157))) (Kd.R_lt (zq3 HO162))) (Kd.R_lt (zq3 HO165))) (below_size (zb1 HB)))
     have n5_ := Aside0.mk (Kd.R_lower (Kd.R_new' (Kd.R_new' (Kd.R_new' (Kd.R_new' ho1 (Kd.R_lt (zq3 HO154))) (Kd.R_lt (zq3 HO157))) (Kd.R_lt (zq3 HO162))) (Kd.R_lt (zq3 HO165))) (below_size (zb1 HB)))
     have n5F_ := Aside0.mk (Kd.R_lower (Kd.R_new' (Kd.R_new' (Kd.R_new' (Kd.R_new' ho1F (Kd.R_lt (zq3 HO154))) (Kd.R_lt (zq3 HO157))) (Kd.R_lt (zq3 HO162))) (Kd.R_lt (zq3 HO165))) (below_size (zb1 HB)))
     have n6_ := Aside0.mk (zbb BK149 hb)
     have n7_ := Aside0.mk (zbb BK166 hb)
     have n8_ := Aside0.mk (below_step (zb1 HB) hb)
     clear HO154 HO154F HO157 HO157F HO162 HO162F HO165 HO165F BK149 BK166 HB
     have HO154 := n0_; have HO154F := n0F_; have HO157 := n1_; have HO157F := n1F_; have HO162 := n2_; have HO162F := n2F_; have HO165 := n3_; have HO165F := n3F_; have HO171 := n4_; have HO171F := n4F_; have HO174 := n5_; have HO174F := n5F_; have BK149 := n6_; have BK166 := n7_; have HB := n8_
     clear n0_ n1_ n2_ n3_ n4_ n5_ n6_ n7_ n8_ n0F_ n1F_ n2F_ n3F_ n4F_ n5F_
     (try clear hb)
     (try clear hb2)
     (try clear hk)
     (try clear hi)
     (try clear ho0)
     (try clear ho0F)
     (try clear ho1)
     (try clear ho1F)
     obtain ⟨Ao36, co36, eo36⟩ := Kd.R_slice HO171.out
     (first | subst eo36 | (injection eo36 with f1_ f2_ f3_; have f4_ := f1_.symm; have f5_ := f3_.symm; clear f1_ f2_ f3_; subst f4_; subst f5_))
     obtain ⟨Ao37, co37, eo37⟩ := Kd.R_slice HO174.out
     (first | subst eo37 | (injection eo37 with f1_ f2_ f3_; have f4_ := f1_.symm; have f5_ := f3_.symm; clear f1_ f2_ f3_; subst f4_; subst f5_))
     refine hK.out _ _ ⟨zc BK166 0, zc BK166 1, zc BK166 2, zc BK149 0, zc BK149 1, zc BK149 2⟩ (fun hHeld => ?_)
     clear hK K
     refine norm_ (a' := ?_) ?_ ?_
     rotate_left
     ·
      show Act.put _ (some 25) _ = _
      simp only [Act.put, List.setIfInBounds_toArray, List.set_cons_zero, List.set_cons_succ, i64_w, i32_w]; rfl
     refine one_ (i := 3) (N := some 26) #[true, true, true, true, false] rfl rfl (by kernel_rfl) (by decide) (fun K hK => ?_)
     refine goes_ Try.func18 (by kernel_rfl) rfl #[.agg #[.int .i64 t159, .slice Ao31 t160.length co31, .slice Ao32 t163.length co32], .agg #[.int .i64 t168, .slice Ao36 t169.length co36, .slice Ao37 t172.length co37]] (by rfl) rfl rfl zq6 ?_
     with_reducible refine (laws_intactBox.calls t159 _ _ t160 _ _ t163 t168 _ _ t169 _ _ t172 true _ ?side1 ?side2 ?side3 ?side4 ?side5 ?side6 ?side7 ?side8 A13.out ?sideF1 ?sideF2 ?sideF3 ?sideF4 ?sideF5 ?sideF6 ?sideF7 ?sideF8).mono ?_
     (case side1 => repeat (first | exact (Kd.R_reads' HO162.out).2.2 | (with_reducible refine Kd.C_alloc ?_ _) | (with_reducible refine Kd.C_drewN ?_ _) | (with_reducible refine Kd.C_drew ?_)))
     (case side2 => exact (Kd.R_reads' HO162.out).2.1)
     (case side3 => repeat (first | exact (Kd.R_reads' HO165.out).2.2 | (with_reducible refine Kd.C_alloc ?_ _) | (with_reducible refine Kd.C_drewN ?_ _) | (with_reducible refine Kd.C_drew ?_)))
     (case side4 => exact (Kd.R_reads' HO165.out).2.1)
     (case side5 => repeat (first | exact (Kd.R_reads' HO171.out).2.2 | (with_reducible refine Kd.C_alloc ?_ _) | (with_reducible refine Kd.C_drewN ?_ _) | (with_reducible refine Kd.C_drew ?_)))
     (case side6 => exact (Kd.R_reads' HO171.out).2.1)
     (case side7 => repeat (first | exact (Kd.R_reads' HO174.out).2.2 | (with_reducible refine Kd.C_alloc ?_ _) | (with_reducible refine Kd.C_drewN ?_ _) | (with_reducible refine Kd.C_drew ?_)))
     (case side8 => exact (Kd.R_reads' HO174.out).2.1)
     (case sideF1 => repeat (first | exact (Kd.R_reads' HO162F.out).2.2 | (with_reducible refine Kd.C_alloc ?_ _) | (with_reducible refine Kd.C_drewN ?_ _) | (with_reducible refine Kd.C_drew ?_)))
     (case sideF2 => exact (Kd.R_reads' HO162F.out).2.1)
     (case sideF3 => repeat (first | exact (Kd.R_reads' HO165F.out).2.2 | (with_reducible refine Kd.C_alloc ?_ _) | (with_reducible refine Kd.C_drewN ?_ _) | (with_reducible refine Kd.C_drew ?_)))
     (case sideF4 => exact (Kd.R_reads' HO165F.out).2.1)
     (case sideF5 => repeat (first | exact (Kd.R_reads' HO171F.out).2.2 | (with_reducible refine Kd.C_alloc ?_ _) | (with_reducible refine Kd.C_drewN ?_ _) | (with_reducible refine Kd.C_drew ?_)))
     (case sideF6 => exact (Kd.R_reads' HO171F.out).2.1)
     (case sideF7 => repeat (first | exact (Kd.R_reads' HO174F.out).2.2 | (with_reducible refine Kd.C_alloc ?_ _) | (with_reducible refine Kd.C_drewN ?_ _) | (with_reducible refine Kd.C_drew ?_)))
     (case sideF8 => exact (Kd.R_reads' HO174F.out).2.1)
     rintro e w38 ⟨rfl, hb⟩
     refine ⟨_, rfl, ?_⟩
     have n0_ := Aside0.mk (Kd.R_below (zq3 HO154) hb)
     have n0F_ := Aside0.mk (Kd.R_below (zq3 HO154F) hb)
     have n1_ := Aside0.mk (Kd.R_below (zq3 HO157) hb)
     have n1F_ := Aside0.mk (Kd.R_below (zq3 HO157F) hb)
     have n2_ := Aside0.mk (Kd.R_below (zq3 HO162) hb)
     have n2F_ := Aside0.mk (Kd.R_below (zq3 HO162F) hb)
     have n3_ := Aside0.mk (Kd.R_below (zq3 HO165) hb)
     have n3F_ := Aside0.mk (Kd.R_below (zq3 HO165F) hb)
     have n4_ := Aside0.mk (Kd.R_below (zq3 HO171) hb)
     have n4F_ := Aside0.mk (Kd.R_below (zq3 HO171F) hb)
     have n5_ := Aside0.mk (Kd.R_below (zq3 HO174) hb)
     have n5F_ := Aside0.mk (Kd.R_below (zq3 HO174F) hb)
     have n6_ := Aside0.mk (zbb BK149 hb)
     have n7_ := Aside0.mk (zbb BK166 hb)
     have n8_ := Aside0.mk (below_step (zb1 HB) hb)
     clear HO154 HO154F HO157 HO157F HO162 HO162F HO165 HO165F HO171 HO171F HO174 HO174F BK149 BK166 HB
     have HO154 := n0_; have HO154F := n0F_; have HO157 := n1_; have HO157F := n1F_; have HO162 := n2_; have HO162F := n2F_; have HO165 := n3_; have HO165F := n3F_; have HO171 := n4_; have HO171F := n4F_; have HO174 := n5_; have HO174F := n5F_; have BK149 := n6_; have BK166 := n7_; have HB := n8_
     clear n0_ n1_ n2_ n3_ n4_ n5_ n6_ n7_ n8_ n0F_ n1F_ n2F_ n3F_ n4F_ n5F_
     (try clear hb)
     (try clear hb2)
     (try clear hk)
     (try clear hi)
     refine hK.out _ _ ⟨zc BK166 0, zc BK166 1, zc BK166 2, zc BK149 0, zc BK149 1, zc BK149 2⟩ (fun hHeld => ?_)
     clear hK K
     refine norm_ (a' := ?_) ?_ ?_
     rotate_left
     ·
      show Act.put _ (some 26) _ = _
      simp only [Act.put, List.setIfInBounds_toArray, List.set_cons_zero, List.set_cons_succ, i64_w, i32_w]; rfl
     refine pure_ (i := 4) (N := some 27) (v := ?_) (a' := ?_) #[true, true, true, true, true] rfl rfl (by kernel_rfl) (fun _ _ _ h => h) (Or.inl ⟨by rfl, ?_⟩) ?_ ?_
     rotate_left
     ·
      intro w'
      go_simp
      with_reducible rfl
     rotate_left
     ·
      simp only [Act.put, List.setIfInBounds_toArray, List.set_cons_zero, List.set_cons_succ, i64_w, i32_w]
      rfl
     refine done_ (by kernel_rfl) ?_
     have hcz39_0 : w38.cell? ⟨gb149, 0, none⟩ = some (.int .i64 a0_0) := zc BK149 0
     have hcz39_1 : w38.cell? ⟨gb149, 1, none⟩ = some (.slice A0_1 l0_1.length c0_1) := zc BK149 1
     have hcz39_2 : w38.cell? ⟨gb149, 2, none⟩ = some (.slice A0_2 l0_2.length c0_2) := zc BK149 2
     have hfz39_0 := blk_frozen BK149.out 0
     have hfz39_1 := blk_frozen BK149.out 1
     have hfz39_2 := blk_frozen BK149.out 2
     try go_wp2_with (first | ((with_reducible refine gate_callee (f := 16) rfl ?_); refine goesL_ (some 29) rfl rfl Try.func16 (by kernel_rfl) rfl #[.agg #[.int .i64 a0_0, .slice A0_1 l0_1.length c0_1, .slice A0_2 l0_2.length c0_2], .bool true] rfl zq6 ?_; (with_reducible refine (laws_toBox.calls k a0_0 _ _ l0_1 _ _ l0_2 true t176 t177 t180 _ ?side1 ?side2 ?side3 ?side4 A15.out).mono ?_); (case side1 => repeat (first | exact (Kd.C_below HR0_1.out HB.out) | (with_reducible refine Kd.C_alloc ?_ _) | (with_reducible refine Kd.C_drewN ?_ _) | (with_reducible refine Kd.C_drew ?_))); (case side2 => exact HC0_1.out); (case side3 => repeat (first | exact (Kd.C_below HR0_2.out HB.out) | (with_reducible refine Kd.C_alloc ?_ _) | (with_reducible refine Kd.C_drewN ?_ _) | (with_reducible refine Kd.C_drew ?_))); (case side4 => exact HC0_2.out); rintro e w40 ⟨v178, v181, rfl, ho0, ho1, hb, ho0F, ho1F⟩; refine ⟨_, rfl, ?_⟩; have n0_ := Aside0.mk (Kd.R_mono (Kd.R_told (Kd.R_told (Kd.R_old (zq3 HO154) hb) (Kd.R_base ho0)) (Kd.R_base ho1)) (fun _ h_ => h_.1)); have n0F_ := Aside0.mk (Kd.R_mono (Kd.R_told (Kd.R_told (Kd.R_old (zq3 HO154F) hb) (Kd.R_base ho0)) (Kd.R_base ho1)) (fun _ h_ => h_.1)); have n1_ := Aside0.mk (Kd.R_mono (Kd.R_told (Kd.R_told (Kd.R_old (zq3 HO157) hb) (Kd.R_base ho0)) (Kd.R_base ho1)) (fun _ h_ => h_.1)); have n1F_ := Aside0.mk (Kd.R_mono (Kd.R_told (Kd.R_told (Kd.R_old (zq3 HO157F) hb) (Kd.R_base ho0)) (Kd.R_base ho1)) (fun _ h_ => h_.1)); have n2_ := Aside0.mk (Kd.R_mono (Kd.R_told (Kd.R_told (Kd.R_old (zq3 HO162) hb) (Kd.R_base ho0)) (Kd.R_base ho1)) (fun _ h_ => h_.1)); have n2F_ := Aside0.mk (Kd.R_mono (Kd.R_told (Kd.R_told (Kd.R_old (zq3 HO162F) hb) (Kd.R_base ho0)) (Kd.R_base ho1)) (fun _ h_ => h_.1)); have n3_ := Aside0.mk (Kd.R_mono (Kd.R_told (Kd.R_told (Kd.R_old (zq3 HO165) hb) (Kd.R_base ho0)) (Kd.R_base ho1)) (fun _ h_ => h_.1)); have n3F_ := Aside0.mk (Kd.R_mono (Kd.R_told (Kd.R_told (Kd.R_old (zq3 HO165F) hb) (Kd.R_base ho0)) (Kd.R_base ho1)) (fun _ h_ => h_.1)); have n4_ := Aside0.mk (Kd.R_mono (Kd.R_told (Kd.R_told (Kd.R_old (zq3 HO171) hb) (Kd.R_base ho0)) (Kd.R_base ho1)) (fun _ h_ => h_.1)); have n4F_ := Aside0.mk (Kd.R_mono (Kd.R_told (Kd.R_told (Kd.R_old (zq3 HO171F) hb) (Kd.R_base ho0)) (Kd.R_base ho1)) (fun _ h_ => h_.1)); have n5_ := Aside0.mk (Kd.R_mono (Kd.R_told (Kd.R_told (Kd.R_old (zq3 HO174) hb) (Kd.R_base ho0)) (Kd.R_base ho1)) (fun _ h_ => h_.1)); have n5F_ := Aside0.mk (Kd.R_mono (Kd.R_told (Kd.R_told (Kd.R_old (zq3 HO174F) hb) (Kd.R_base ho0)) (Kd.R_base ho1)) (fun _ h_ => h_.1)); have n6_ := Aside0.mk (Kd.R_lower (Kd.R_new' (Kd.R_new' (Kd.R_new' (Kd.R_new' (Kd.R_new' (Kd.R_new' ho0 (Kd.R_lt (zq3 HO154))) (Kd.R_lt (zq3 HO157))) (Kd.R_lt (zq3 HO162))) (Kd.R_lt (zq3 HO165))) (Kd.R_lt (zq3 HO171))) (Kd.R_lt (zq3 HO174))) (below_size (zb1 HB))); have n6F_ := Aside0.mk (Kd.R_lower (Kd.R_new' (Kd.R_new' (Kd.R_new' (Kd.R_new' (Kd.R_new' (Kd.R_new' ho0F (Kd.R_lt (zq3 HO154))) (Kd.R_lt (zq3 HO157))) (Kd.R_lt (zq3 HO162))) (Kd.R_lt (zq3 HO165))) (Kd.R_lt (zq3 HO171))) (Kd.R_lt (zq3 HO174))) (below_size (zb1 HB))); have n7_ := Aside0.mk (Kd.R_lower (Kd.R_new' (Kd.R_new' (Kd.R_new' (Kd.R_new' (Kd.R_new' (Kd.R_new' ho1 (Kd.R_lt (zq3 HO154))) (Kd.R_lt (zq3 HO157))) (Kd.R_lt (zq3 HO162))) (Kd.R_lt (zq3 HO165))) (Kd.R_lt (zq3 HO171))) (Kd.R_lt (zq3 HO174))) (below_size (zb1 HB))); have n7F_ := Aside0.mk (Kd.R_lower (Kd.R_new' (Kd.R_new' (Kd.R_new' (Kd.R_new' (Kd.R_new' (Kd.R_new' ho1F (Kd.R_lt (zq3 HO154))) (Kd.R_lt (zq3 HO157))) (Kd.R_lt (zq3 HO162))) (Kd.R_lt (zq3 HO165))) (Kd.R_lt (zq3 HO171))) (Kd.R_lt (zq3 HO174))) (below_size (zb1 HB))); have n8_ := Aside0.mk (zbb BK149 hb); have n9_ := Aside0.mk (zbb BK166 hb); have n10_ := Aside0.mk (below_step (zb1 HB) hb); clear HO154 HO154F; clear HO157 HO157F; clear HO162 HO162F; clear HO165 HO165F; clear HO171 HO171F; clear HO174 HO174F; clear BK149; clear BK166; clear HB; have HO154 := n0_; have HO154F := n0F_; have HO157 := n1_; have HO157F := n1F_; have HO162 := n2_; have HO162F := n2F_; have HO165 := n3_; have HO165F := n3F_; have HO171 := n4_; have HO171F := n4F_; have HO174 := n5_; have HO174F := n5F_; have HO179 := n6_; have HO179F := n6F_; have HO182 := n7_; have HO182F := n7F_; have BK149 := n8_; have BK166 := n9_; have HB := n10_; clear n0_ n1_ n2_ n3_ n4_ n5_ n6_ n7_ n8_ n9_ n10_ n0F_ n1F_ n2F_ n3F_ n4F_ n5F_ n6F_ n7F_; (try clear hb); (try clear hb2); (try clear hk); (try clear hi); (try clear ho0); (try clear ho0F); (try clear ho1); (try clear ho1F); obtain ⟨Ao41, co41, eo41⟩ := Kd.R_slice HO179.out; subst eo41; obtain ⟨Ao42, co42, eo42⟩ := Kd.R_slice HO182.out; subst eo42) | ((with_reducible refine gate_callee (f := 17) rfl ?_); refine goesL_ (some 30) rfl rfl Try.func17 (by kernel_rfl) rfl #[.agg #[.int .i64 t176, .slice Ao41 t177.length co41, .slice Ao42 t180.length co42]] rfl zq6 ?_; (with_reducible refine (impl_IsBox.calls k t176 _ _ t177 _ _ t180 t183 _ ?side1 ?side2 ?side3 ?side4 A16.out).mono ?_); (case side1 => repeat (first | exact (Kd.R_reads' HO179.out).2.2 | (with_reducible refine Kd.C_alloc ?_ _) | (with_reducible refine Kd.C_drewN ?_ _) | (with_reducible refine Kd.C_drew ?_))); (case side2 => exact (Kd.R_reads' HO179.out).2.1); (case side3 => repeat (first | exact (Kd.R_reads' HO182.out).2.2 | (with_reducible refine Kd.C_alloc ?_ _) | (with_reducible refine Kd.C_drewN ?_ _) | (with_reducible refine Kd.C_drew ?_))); (case side4 => exact (Kd.R_reads' HO182.out).2.1); rintro e w43 ⟨rfl, hb⟩; refine ⟨_, rfl, ?_⟩; have n0_ := Aside0.mk (Kd.R_below (zq3 HO154) hb); have n0F_ := Aside0.mk (Kd.R_below (zq3 HO154F) hb); have n1_ := Aside0.mk (Kd.R_below (zq3 HO157) hb); have n1F_ := Aside0.mk (Kd.R_below (zq3 HO157F) hb); have n2_ := Aside0.mk (Kd.R_below (zq3 HO162) hb); have n2F_ := Aside0.mk (Kd.R_below (zq3 HO162F) hb); have n3_ := Aside0.mk (Kd.R_below (zq3 HO165) hb); have n3F_ := Aside0.mk (Kd.R_below (zq3 HO165F) hb); have n4_ := Aside0.mk (Kd.R_below (zq3 HO171) hb); have n4F_ := Aside0.mk (Kd.R_below (zq3 HO171F) hb); have n5_ := Aside0.mk (Kd.R_below (zq3 HO174) hb); have n5F_ := Aside0.mk (Kd.R_below (zq3 HO174F) hb); have n6_ := Aside0.mk (Kd.R_below (zq3 HO179) hb); have n6F_ := Aside0.mk (Kd.R_below (zq3 HO179F) hb); have n7_ := Aside0.mk (Kd.R_below (zq3 HO182) hb); have n7F_ := Aside0.mk (Kd.R_below (zq3 HO182F) hb); have n8_ := Aside0.mk (zbb BK149 hb); have n9_ := Aside0.mk (zbb BK166 hb); have n10_ := Aside0.mk (below_step (zb1 HB) hb); clear HO154 HO154F; clear HO157 HO157F; clear HO162 HO162F; clear HO165 HO165F; clear HO171 HO171F; clear HO174 HO174F; clear HO179 HO179F; clear HO182 HO182F; clear BK149; clear BK166; clear HB; have HO154 := n0_; have HO154F := n0F_; have HO157 := n1_; have HO157F := n1F_; have HO162 := n2_; have HO162F := n2F_; have HO165 := n3_; have HO165F := n3F_; have HO171 := n4_; have HO171F := n4F_; have HO174 := n5_; have HO174F := n5F_; have HO179 := n6_; have HO179F := n6F_; have HO182 := n7_; have HO182F := n7F_; have BK149 := n8_; have BK166 := n9_; have HB := n10_; clear n0_ n1_ n2_ n3_ n4_ n5_ n6_ n7_ n8_ n9_ n10_ n0F_ n1F_ n2F_ n3F_ n4F_ n5F_ n6F_ n7F_; (try clear hb); (try clear hb2); (try clear hk); (try clear hi)))
     go_ret
     exact ⟨by first | rfl | (simp [errW_none, errW_some] <;> rfl) | (simp [*, errW_none, errW_some] <;> rfl), (zb1 HB)⟩
   ·
    replace c14 := Bool.eq_false_iff.mpr c14
    subst c14
    have H1 : (none) = some r := by rw [if_neg (show ¬ (false = true) by decide)] at H; exact H
    clear H
    have H := H1
    clear H1
    exact absurd H (by simp)
end Go.Proofs.Ytgaoniapddpaaaa.PD
