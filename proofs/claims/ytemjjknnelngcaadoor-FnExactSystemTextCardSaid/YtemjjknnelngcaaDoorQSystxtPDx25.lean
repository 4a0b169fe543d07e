-- By wip/mk/drv.py
import Derived.Test.YtemjjknnelngcaaDoorQSystxtPDx0
import Derived.Test.YtemjjknnelngcaaDoorQSystxtPDx1
import Derived.Test.YtemjjknnelngcaaDoorQSystxtPDx2
import Derived.Test.YtemjjknnelngcaaDoorQSystxtPDx3
import Derived.Test.YtemjjknnelngcaaDoorQSystxtPDx11
import Derived.Test.YtemjjknnelngcaaDoorQSystxtPDx13
import Derived.Test.YtemjjknnelngcaaDoorQSystxtPDx20
import Derived.Test.YtemjjknnelngcaaDoorQSystxtPDx24
namespace Go.Proofs.YtemjjknnelngcaaDoor.PD
open Go.RowKit Go.Proofs.YtemjjknnelngcaaDoorW.PrintWords Go.Proofs.YtemjjknnelngcaaDoorW.PrintLast Go.Proofs.YtemjjknnelngcaaDoorW.PrintMore
attribute [local go_sem] max2_int min2_int max_two min_two max_three min_three max_four min_four
set_option linter.unusedVariables false
set_option linter.unusedSimpArgs false
/-! ### laws_FnExactSystemText: function 3 -/
theorem qB {α : Type} {D : Kd α} {w W w1 : World} {A : Option Addr} {n c : Nat} {xs : List α} (h : Aside0 (Kd.C D w A n xs ∧ n ≤ c)) (hb : Below W.heap.size W w1) (f : Kd.C D w A n xs → Kd.C D W A n xs := by intro h_; repeat (first | exact h_ | (with_reducible refine Kd.C_alloc ?_ _) | (with_reducible refine Kd.C_drewN ?_ _) | (with_reducible refine Kd.C_drew ?_))) : Kd.C D w1 A n xs ∧ n ≤ c := ⟨Kd.C_below (f h.out.1) hb, h.out.2⟩
theorem qP {α : Type} {D : Kd α} {w W : World} {A : Option Addr} {n c : Nat} {xs : List α} (h : Aside0 (Kd.C D w A n xs ∧ n ≤ c)) (f : Kd.C D w A n xs → Kd.C D W A n xs := by intro h_; repeat (first | exact h_ | (with_reducible refine Kd.C_alloc ?_ _) | (with_reducible refine Kd.C_drewN ?_ _) | (with_reducible refine Kd.C_drew ?_))) : Kd.C D W A n xs := f h.out.1
theorem qL {α : Type} {e : Nat} {d : Kd α} {w : World} {A : Option Addr} {z : α} {b : Bool} {xs : List (List α)} {c : Nat} (h : Kd.C (Kd.spq e d z b) w A (Kd.fulq z b xs).length (Kd.fulq z b xs) ∧ (Kd.fulq z b xs).length ≤ c) : xs.length ≤ c := by
  have h2 := h.2
  unfold Kd.fulq at h2
  rw [List.length_append, List.length_map] at h2
  omega
theorem qC {α : Type} {e : Nat} {d : Kd α} {w : World} {A : Option Addr} {z : α} {b : Bool} {xs : List (List α)} {c : Nat} (h : Kd.C (Kd.spq e d z b) w A (Kd.fulq z b xs).length (Kd.fulq z b xs) ∧ (Kd.fulq z b xs).length ≤ c) : Kd.C (Kd.slice e d) w A xs.length xs := by
  have h1 := Kd.C_spq h.1
  have hl : xs.length ≤ (Kd.fulq z b xs).length := by unfold Kd.fulq; rw [List.length_append, List.length_map]; omega
  have hm : ((Kd.fulq z b xs).map Prod.fst).length = (Kd.fulq z b xs).length := List.length_map _
  rw [← hm] at h1
  have h2 := Kd.C_take (m := xs.length) h1 (by rw [hm]; exact hl)
  rw [← List.map_take, Kd.fulq_take] at h2
  exact h2
set_option maxHeartbeats 8000000 in
set_option maxRecDepth 100000 in
theorem laws_FnExactSystemText.calls (k : Nat) (A0 : Option Addr) (c0 : Nat) (l0 : List (List (S46))) (r : Bool) (w : World) (ht : Tab w) (hr0 : Kd.C (Kd.slice 46 k46) w A0 l0.length l0) (hc0 : l0.length ≤ c0) (h : laws_FnExactSystemText.f k l0 = some r) :
  Calls Tryd.prog 3 #[.slice A0 l0.length c0] w fun e w' => e = .returned (.bool r) ∧ Below w.heap.size w w' := by
 have HTAB := Aside0.mk ht
 clear ht
 have HR0 := Aside0.mk hr0
 have HC0 := Aside0.mk hc0
 clear hr0 hc0
 have HB := Aside0.mk (Below.refl w.heap.size w)
 have H : ((laws_szTermSS.f k l0 1000000).bind fun t231 => (if t231 < 0 then (some true) else ((laws_toTermSS.f k l0 false).bind fun t232 => ((spec_SystemText.f k t232).bind fun bt235 => ((laws_toTermSS.f k l0 false).bind fun t237 => ((impl_SystemText.f k t237).bind fun bt240 => (if bt240.1.toList = bt235.1.toList then (if (bt240.2 != bt235.2) = true then (none) else ((laws_toTermSS.f k l0 false).bind fun t242 => ((laws_intactTermSS.f t237 t242).bind fun t245 => (if t245 = true then ((laws_toTermSS.f k l0 true).bind fun t246 => ((impl_SystemText.f k t246).bind fun bt249 => (if bt249.1.toList = bt235.1.toList then (if (bt249.2 != bt235.2) = true then (none) else (some true)) else (none)))) else (none))))) else (none)))))))) = some r := h
 clear h
 replace H := Option.bind_eq_some_iff.mp H
 obtain ⟨t231, A20, H⟩ := H
 replace H : (if t231 < 0 then (some true) else ((laws_toTermSS.f k l0 false).bind fun t232 => ((spec_SystemText.f k t232).bind fun bt235 => ((laws_toTermSS.f k l0 false).bind fun t237 => ((impl_SystemText.f k t237).bind fun bt240 => (if bt240.1.toList = bt235.1.toList then (if (bt240.2 != bt235.2) = true then (none) else ((laws_toTermSS.f k l0 false).bind fun t242 => ((laws_intactTermSS.f t237 t242).bind fun t245 => (if t245 = true then ((laws_toTermSS.f k l0 true).bind fun t246 => ((impl_SystemText.f k t246).bind fun bt249 => (if bt249.1.toList = bt235.1.toList then (if (bt249.2 != bt235.2) = true then (none) else (some true)) else (none)))) else (none))))) else (none))))))) = some r := H
 have A2 := Aside0.mk A20
 clear A20
 by_cases c3 : t231 < 0
 ·
  rw [if_pos c3] at H
  have c3b0 : decide (t231 < 0) = true := decide_eq_true c3
  clear c3
  obtain rfl := Option.some.inj H
  go_enter Tryd.func3, Tryd.ntmps3
  go_wp2_with (first | ((with_reducible refine gate_callee (f := 4) rfl ?_); refine goesL_ (some 13) rfl rfl Tryd.func4 (by kernel_rfl) rfl #[.slice A0 l0.length c0, .int .i64 1000000] rfl zq6 ?_; (with_reducible refine (laws_szTermSS.calls k _ _ l0 1000000 t231 _ ?side1 ?side2 A2.out).mono ?_); (case side1 => repeat (first | exact HR0.out | (with_reducible refine Kd.C_alloc ?_ _) | (with_reducible refine Kd.C_drewN ?_ _) | (with_reducible refine Kd.C_drew ?_))); (case side2 => exact HC0.out); rintro e w' ⟨rfl, ⟨nd, rfl⟩⟩; refine ⟨_, rfl, ?_⟩))
  go_ret
  exact ⟨by first | rfl | (simp [errW_none, errW_some] <;> rfl) | (simp [*, errW_none, errW_some] <;> rfl), (zb0 HB)⟩
 ·
  rw [if_neg c3] at H
  have c3b0 : decide (t231 < 0) = false := decide_eq_false c3
  clear c3
  replace H := Option.bind_eq_some_iff.mp H
  obtain ⟨t232, A40, H⟩ := H
  replace H : ((spec_SystemText.f k t232).bind fun bt235 => ((laws_toTermSS.f k l0 false).bind fun t237 => ((impl_SystemText.f k t237).bind fun bt240 => (if bt240.1.toList = bt235.1.toList then (if (bt240.2 != bt235.2) = true then (none) else ((laws_toTermSS.f k l0 false).bind fun t242 => ((laws_intactTermSS.f t237 t242).bind fun t245 => (if t245 = true then ((laws_toTermSS.f k l0 true).bind fun t246 => ((impl_SystemText.f k t246).bind fun bt249 => (if bt249.1.toList = bt235.1.toList then (if (bt249.2 != bt235.2) = true then (none) else (some true)) else (none)))) else (none))))) else (none))))) = some r := H
  have A4 := Aside0.mk A40
  clear A40
  replace H := Option.bind_eq_some_iff.mp H
  obtain ⟨⟨t235, t236⟩, A50, H⟩ := H
  replace H : ((laws_toTermSS.f k l0 false).bind fun t237 => ((impl_SystemText.f k t237).bind fun bt240 => (if bt240.1.toList = t235.toList then (if (bt240.2 != t236) = true then (none) else ((laws_toTermSS.f k l0 false).bind fun t242 => ((laws_intactTermSS.f t237 t242).bind fun t245 => (if t245 = true then ((laws_toTermSS.f k l0 true).bind fun t246 => ((impl_SystemText.f k t246).bind fun bt249 => (if bt249.1.toList = t235.toList then (if (bt249.2 != t236) = true then (none) else (some true)) else (none)))) else (none))))) else (none)))) = some r := H
  have A5 := Aside0.mk A50
  clear A50
  replace H := Option.bind_eq_some_iff.mp H
  obtain ⟨t237, A60, H⟩ := H
  replace H : ((impl_SystemText.f k t237).bind fun bt240 => (if bt240.1.toList = t235.toList then (if (bt240.2 != t236) = true then (none) else ((laws_toTermSS.f k l0 false).bind fun t242 => ((laws_intactTermSS.f t237 t242).bind fun t245 => (if t245 = true then ((laws_toTermSS.f k l0 true).bind fun t246 => ((impl_SystemText.f k t246).bind fun bt249 => (if bt249.1.toList = t235.toList then (if (bt249.2 != t236) = true then (none) else (some true)) else (none)))) else (none))))) else (none))) = some r := H
  have A6 := Aside0.mk A60
  clear A60
  replace H := Option.bind_eq_some_iff.mp H
  obtain ⟨⟨t240, t241⟩, A70, H⟩ := H
  replace H : (if t240.toList = t235.toList then (if (t241 != t236) = true then (none) else ((laws_toTermSS.f k l0 false).bind fun t242 => ((laws_intactTermSS.f t237 t242).bind fun t245 => (if t245 = true then ((laws_toTermSS.f k l0 true).bind fun t246 => ((impl_SystemText.f k t246).bind fun bt249 => (if bt249.1.toList = t235.toList then (if (bt249.2 != t236) = true then (none) else (some true)) else (none)))) else (none))))) else (none)) = some r := H
  have A7 := Aside0.mk A70
  clear A70
  by_cases c8 : t240.toList = t235.toList
  ·
   rw [if_pos c8] at H
   have c8b0 : (t240.toList == t235.toList) = true := beq_iff_eq.mpr c8
   have c8b1 : (t240.toList != t235.toList) = false := bne_eq_false_iff_eq.mpr c8
   clear c8
   by_cases c9 : (t241 != t236) = true
   ·
    rw [if_pos c9] at H
    exact absurd H (by simp)
   ·
    rw [if_neg c9] at H
    have c9b0 : (t241 != t236) = false := by simpa using c9
    (try (have c9b1 : decide (t241 = t236) = true := by simpa using c9))
    (try (have c9b2 : (t241 == t236) = true := by simpa using c9))
    clear c9
    replace H := Option.bind_eq_some_iff.mp H
    obtain ⟨t242, A100, H⟩ := H
    replace H : ((laws_intactTermSS.f t237 t242).bind fun t245 => (if t245 = true then ((laws_toTermSS.f k l0 true).bind fun t246 => ((impl_SystemText.f k t246).bind fun bt249 => (if bt249.1.toList = t235.toList then (if (bt249.2 != t236) = true then (none) else (some true)) else (none)))) else (none))) = some r := H
    have A10 := Aside0.mk A100
    clear A100
    replace H := Option.bind_eq_some_iff.mp H
    obtain ⟨t245, A110, H⟩ := H
    replace H : (if t245 = true then ((laws_toTermSS.f k l0 true).bind fun t246 => ((impl_SystemText.f k t246).bind fun bt249 => (if bt249.1.toList = t235.toList then (if (bt249.2 != t236) = true then (none) else (some true)) else (none)))) else (none)) = some r := H
    have A11 := Aside0.mk A110
    clear A110
    by_cases c12 : t245 = true
    ·
     subst c12
     have H1 : ((laws_toTermSS.f k l0 true).bind fun t246 => ((impl_SystemText.f k t246).bind fun bt249 => (if bt249.1.toList = t235.toList then (if (bt249.2 != t236) = true then (none) else (some true)) else (none)))) = some r := by rw [if_pos rfl] at H; exact H
     clear H
     have H := H1
     clear H1
     replace H := Option.bind_eq_some_iff.mp H
     obtain ⟨t246, A130, H⟩ := H
     replace H : ((impl_SystemText.f k t246).bind fun bt249 => (if bt249.1.toList = t235.toList then (if (bt249.2 != t236) = true then (none) else (some true)) else (none))) = some r := H
     have A13 := Aside0.mk A130
     clear A130
     replace H := Option.bind_eq_some_iff.mp H
     obtain ⟨⟨t249, t250⟩, A140, H⟩ := H
     replace H : (if t249.toList = t235.toList then (if (t250 != t236) = true then (none) else (some true)) else (none)) = some r := H
     have A14 := Aside0.mk A140
     clear A140
     by_cases c15 : t249.toList = t235.toList
     ·
      rw [if_pos c15] at H
      have c15b0 : (t249.toList == t235.toList) = true := beq_iff_eq.mpr c15
      have c15b1 : (t249.toList != t235.toList) = false := bne_eq_false_iff_eq.mpr c15
      clear c15
      by_cases c16 : (t250 != t236) = true
      ·
       rw [if_pos c16] at H
       exact absurd H (by simp)
      ·
       rw [if_neg c16] at H
       have c16b0 : (t250 != t236) = false := by simpa using c16
       (try (have c16b1 : decide (t250 = t236) = true := by simpa using c16))
       (try (have c16b2 : (t250 == t236) = true := by simpa using c16))
       clear c16
       obtain rfl := Option.some.inj H
       go_enter Tryd.func3, Tryd.ntmps3
       go_wp2_with (first | ((with_reducible refine gate_callee (f := 4) rfl ?_); refine goesL_ (some 13) rfl rfl Tryd.func4 (by kernel_rfl) rfl #[.slice A0 l0.length c0, .int .i64 1000000] rfl zq6 ?_; (with_reducible refine (laws_szTermSS.calls k _ _ l0 1000000 t231 _ ?side1 ?side2 A2.out).mono ?_); (case side1 => repeat (first | exact HR0.out | (with_reducible refine Kd.C_alloc ?_ _) | (with_reducible refine Kd.C_drewN ?_ _) | (with_reducible refine Kd.C_drew ?_))); (case side2 => exact HC0.out); rintro e w' ⟨rfl, ⟨nd, rfl⟩⟩; refine ⟨_, rfl, ?_⟩) | ((with_reducible refine gate_callee (f := 6) rfl ?_); refine goesL_ (some 18) rfl rfl Tryd.func6 (by kernel_rfl) rfl #[.slice A0 l0.length c0, .bool false] rfl zq6 ?_; (with_reducible refine (laws_toTermSS.calls k _ _ l0 false t232 _ ?side1 ?side2 A4.out).mono ?_); (case side1 => repeat (first | exact HR0.out | (with_reducible refine Kd.C_alloc ?_ _) | (with_reducible refine Kd.C_drewN ?_ _) | (with_reducible refine Kd.C_drew ?_))); (case side2 => exact HC0.out); rintro e w17 ⟨Ao18, co18, rfl, hq, hl, hb⟩; refine ⟨_, rfl, ?_⟩; have HO234 := Aside0.mk (And.intro hq hl); (try clear hq hl); replace HB := Aside0.mk (below_step (zb0 HB) hb); (try clear hb); (try clear hb2); (try clear hk); (try clear hi); (try clear ho0)) | ((with_reducible refine gate_callee (f := 5) rfl ?_); refine goesL_ (some 19) rfl rfl Tryd.func5 (by kernel_rfl) rfl #[.slice Ao18 t232.length co18] rfl zq6 ?_; (with_reducible refine (spec_SystemText.calls k _ _ t232 t235 t236 _ ?side1 ?side2 A5.out).mono ?_); (case side1 => repeat (first | exact (qC (And.intro (qP HO234) HO234.out.2)) | (with_reducible refine Kd.C_alloc ?_ _) | (with_reducible refine Kd.C_drewN ?_ _) | (with_reducible refine Kd.C_drew ?_))); (case side2 => exact (qL HO234.out)); rintro e w19 ⟨rfl, hb⟩; refine ⟨_, rfl, ?_⟩; replace HO234 := Aside0.mk (qB HO234 hb); replace HB := Aside0.mk (below_step (zb0 HB) hb); (try clear hb); (try clear hb2); (try clear hk); (try clear hi)) | ((with_reducible refine gate_callee (f := 6) rfl ?_); refine goesL_ (some 23) rfl rfl Tryd.func6 (by kernel_rfl) rfl #[.slice A0 l0.length c0, .bool false] rfl zq6 ?_; (with_reducible refine (laws_toTermSS.calls k _ _ l0 false t237 _ ?side1 ?side2 A6.out).mono ?_); (case side1 => repeat (first | exact (Kd.C_below HR0.out HB.out) | (with_reducible refine Kd.C_alloc ?_ _) | (with_reducible refine Kd.C_drewN ?_ _) | (with_reducible refine Kd.C_drew ?_))); (case side2 => exact HC0.out); rintro e w20 ⟨Ao21, co21, rfl, hq, hl, hb⟩; refine ⟨_, rfl, ?_⟩; have HO239 := Aside0.mk (And.intro hq hl); (try clear hq hl); replace HB := Aside0.mk (below_step (zb0 HB) hb); (try clear hb); (try clear hb2); (try clear hk); (try clear hi); (try clear ho0)) | ((with_reducible refine gate_callee (f := 7) rfl ?_); refine goesL_ (some 26) rfl rfl Tryd.func7 (by kernel_rfl) rfl #[.slice Ao21 t237.length co21] rfl zq6 ?_; (with_reducible refine (impl_SystemText.calls k _ _ t237 t240 t241 _ (ztab HTAB (zb1 HB)) ?side1 ?side2 A7.out).mono ?_); (case side1 => repeat (first | exact (qC (And.intro (qP HO239) HO239.out.2)) | (with_reducible refine Kd.C_alloc ?_ _) | (with_reducible refine Kd.C_drewN ?_ _) | (with_reducible refine Kd.C_drew ?_))); (case side2 => exact (qL HO239.out)); rintro e w22 ⟨rfl, hb⟩; refine ⟨_, rfl, ?_⟩; replace HO239 := Aside0.mk (qB HO239 hb); replace HB := Aside0.mk (below_step (zb0 HB) hb); (try clear hb); (try clear hb2); (try clear hk); (try clear hi)) | ((with_reducible refine gate_callee (f := 6) rfl ?_); refine goesL_ (some 39) rfl rfl Tryd.func6 (by kernel_rfl) rfl #[.slice A0 l0.length c0, .bool false] rfl zq6 ?_; (with_reducible refine (laws_toTermSS.calls k _ _ l0 false t242 _ ?side1 ?side2 A10.out).mono ?_); (case side1 => repeat (first | exact (Kd.C_below HR0.out HB.out) | (with_reducible refine Kd.C_alloc ?_ _) | (with_reducible refine Kd.C_drewN ?_ _) | (with_reducible refine Kd.C_drew ?_))); (case side2 => exact HC0.out); rintro e w23 ⟨Ao24, co24, rfl, hq, hl, hb⟩; refine ⟨_, rfl, ?_⟩; have HO244 := Aside0.mk (And.intro hq hl); (try clear hq hl); replace HO239 := Aside0.mk (qB HO239 hb); replace HB := Aside0.mk (below_step (zb0 HB) hb); (try clear hb); (try clear hb2); (try clear hk); (try clear hi); (try clear ho0)) | ((with_reducible refine gate_callee (f := 8) rfl ?_); refine goesL_ (some 40) rfl rfl Tryd.func8 (by kernel_rfl) rfl #[.slice Ao21 t237.length co21, .slice Ao24 t242.length co24] rfl zq6 ?_; (with_reducible refine (laws_intactTermSS.calls _ _ t237 _ _ t242 true _ ?side1 ?side2 ?side3 ?side4 A11.out ?sideF1 ?sideG1 ?sideF2 ?sideG2).mono ?_); (case side1 => repeat (first | exact (qC (And.intro (qP HO239) HO239.out.2)) | (with_reducible refine Kd.C_alloc ?_ _) | (with_reducible refine Kd.C_drewN ?_ _) | (with_reducible refine Kd.C_drew ?_))); (case side2 => exact (qL HO239.out)); (case side3 => repeat (first | exact (qC (And.intro (qP HO244) HO244.out.2)) | (with_reducible refine Kd.C_alloc ?_ _) | (with_reducible refine Kd.C_drewN ?_ _) | (with_reducible refine Kd.C_drew ?_))); (case side4 => exact (qL HO244.out)); (case sideF1 => exact qP HO239); (case sideG1 => exact HO239.out.2); (case sideF2 => exact qP HO244); (case sideG2 => exact HO244.out.2); rintro e w25 ⟨rfl, hb⟩; refine ⟨_, rfl, ?_⟩; replace HO239 := Aside0.mk (qB HO239 hb); replace HO244 := Aside0.mk (qB HO244 hb); replace HB := Aside0.mk (below_step (zb0 HB) hb); (try clear hb); (try clear hb2); (try clear hk); (try clear hi)) | ((with_reducible refine gate_callee (f := 6) rfl ?_); refine goesL_ (some 44) rfl rfl Tryd.func6 (by kernel_rfl) rfl #[.slice A0 l0.length c0, .bool true] rfl zq6 ?_; (with_reducible refine (laws_toTermSS.calls k _ _ l0 true t246 _ ?side1 ?side2 A13.out).mono ?_); (case side1 => repeat (first | exact (Kd.C_below HR0.out HB.out) | (with_reducible refine Kd.C_alloc ?_ _) | (with_reducible refine Kd.C_drewN ?_ _) | (with_reducible refine Kd.C_drew ?_))); (case side2 => exact HC0.out); rintro e w26 ⟨Ao27, co27, rfl, hq, hl, hb⟩; refine ⟨_, rfl, ?_⟩; have HO248 := Aside0.mk (And.intro hq hl); (try clear hq hl); replace HB := Aside0.mk (below_step (zb0 HB) hb); (try clear hb); (try clear hb2); (try clear hk); (try clear hi); (try clear ho0)) | ((with_reducible refine gate_callee (f := 7) rfl ?_); refine goesL_ (some 45) rfl rfl Tryd.func7 (by kernel_rfl) rfl #[.slice Ao27 t246.length co27] rfl zq6 ?_; (with_reducible refine (impl_SystemText.calls k _ _ t246 t249 t250 _ (ztab HTAB (zb1 HB)) ?side1 ?side2 A14.out).mono ?_); (case side1 => repeat (first | exact (qC (And.intro (qP HO248) HO248.out.2)) | (with_reducible refine Kd.C_alloc ?_ _) | (with_reducible refine Kd.C_drewN ?_ _) | (with_reducible refine Kd.C_drew ?_))); (case side2 => exact (qL HO248.out)); rintro e w28 ⟨rfl, hb⟩; refine ⟨_, rfl, ?_⟩; replace HO248 := Aside0.mk (qB HO248 hb); replace HB := Aside0.mk (below_step (zb0 HB) hb); (try clear hb); (try clear hb2); (try clear hk); (try clear hi)))
       go_ret
       exact ⟨by first | rfl | (simp [errW_none, errW_some] <;> rfl) | (simp [*, errW_none, errW_some] <;> rfl), (zb0 HB)⟩
     ·
      rw [if_neg c15] at H
      exact absurd H (by simp)
    ·
     replace c12 := Bool.eq_false_iff.mpr c12
     subst c12
     have H1 : (none) = some r := by rw [if_neg (show ¬ (false = true) by decide)] at H; exact H
     clear H
     have H := H1
     clear H1
     exact absurd H (by simp)
  ·
   rw [if_neg c8] at H
   exact absurd H (by simp)
end Go.Proofs.YtemjjknnelngcaaDoor.PD
