-- By wip/mk/drv.py
import Derived.Test.YtemjjknnelngcaaQIsSyemPDx0
import Derived.Test.YtemjjknnelngcaaQIsSyemPDx1
import Derived.Test.YtemjjknnelngcaaQIsSyemPDx2
import Derived.Test.YtemjjknnelngcaaQIsSyemPDx6
import Derived.Test.YtemjjknnelngcaaQIsSyemPDx8
import Derived.Test.YtemjjknnelngcaaQIsSyemPDx12
import Derived.Test.YtemjjknnelngcaaQIsSyemPDx16
namespace Go.Proofs.Ytemjjknnelngcaa.PD
open Go.RowKit Go.Proofs.YtemjjknnelngcaaW.PrintWords Go.Proofs.YtemjjknnelngcaaW.PrintLast Go.Proofs.YtemjjknnelngcaaW.PrintMore
attribute [local go_sem] max2_int min2_int max_two min_two max_three min_three max_four min_four
set_option linter.unusedVariables false
set_option linter.unusedSimpArgs false
/-! ### laws_FnExactIsSystem: function 3 -/
theorem qB {α : Type} {D : Kd α} {w W w1 : World} {A : Option Addr} {n c : Nat} {xs : List α} (h : Aside0 (Kd.C D w A n xs ∧ n ≤ c)) (hb : Below W.heap.size W w1) (f : Kd.C D w A n xs → Kd.C D W A n xs := by intro h_; repeat (first | exact h_ | (with_reducible refine Kd.C_alloc ?_ _) | (with_reducible refine Kd.C_drewN ?_ _) | (with_reducible refine Kd.C_drew ?_))) : Kd.C D w1 A n xs ∧ n ≤ c := ⟨Kd.C_below (f h.out.1) hb, h.out.2⟩
theorem qP {α : Type} {D : Kd α} {w W : World} {A : Option Addr} {n c : Nat} {xs : List α} (h : Aside0 (Kd.C D w A n xs ∧ n ≤ c)) (f : Kd.C D w A n xs → Kd.C D W A n xs := by intro h_; repeat (first | exact h_ | (with_reducible refine Kd.C_alloc ?_ _) | (with_reducible refine Kd.C_drewN ?_ _) | (with_reducible refine Kd.C_drew ?_))) : Kd.C D W A n xs := f h.out.1
theorem qL {α : Type} {e : Nat} {d : Kd α} {w : World} {A : Option Addr} {z : α} {b : Bool} {xs : List (List α)} {c : Nat} (h : Kd.C (Kd.spq e d z b) w A (Kd.fulq z b xs).length (Kd.fulq z b xs) ∧ (Kd.fulq z b xs).length ≤ c) : xs.length ≤ c := by
  have h2 := h.2
  unfold Kd.fulq at h2
  rw [List.length_append, List.length_map] at h2
  omega
theorem qC {α : Type} {e : Nat} {d : Kd α} {w : World} {A : Option Addr} {z : α} {b : Bool} {xs : List (List α)} {c : Nat} (h : Kd.C (Kd.spq e d z b) w A (Kd.fulq z b xs).length (Kd.fulq z b xs) ∧ (Kd.fulq z b xs).length ≤ c) : Kd.C (Kd.slice e d) w A xs.length xs := by
  have h1 := Kd.C_spq h.1
  have hl : xs.length ≤ (Kd.fulq z b xs).length := by unfold Kd.fulq; rw [List.length_append, List.length_map]; omega
  have hm : ((Kd.fulq z b xs).map Prod.fst).length = (Kd.fulq z b xs).length := List.length_map _
  rw [← hm] at h1
  have h2 := Kd.C_take (m := xs.length) h1 (by rw [hm]; exact hl)
  rw [← List.map_take, Kd.fulq_take] at h2
  exact h2
set_option maxHeartbeats 8000000 in
set_option maxRecDepth 100000 in
theorem laws_FnExactIsSystem.calls (k : Nat) (A0 : Option Addr) (c0 : Nat) (l0 : List (List (S42))) (r : Bool) (w : World) (hr0 : Kd.C (Kd.slice 42 k42) w A0 l0.length l0) (hc0 : l0.length ≤ c0) (h : laws_FnExactIsSystem.f k l0 = some r) :
  Calls Try.prog 3 #[.slice A0 l0.length c0] w fun e w' => e = .returned (.bool r) ∧ Below w.heap.size w w' := by
 have HR0 := Aside0.mk hr0
 have HC0 := Aside0.mk hc0
 clear hr0 hc0
 have HB := Aside0.mk (Below.refl w.heap.size w)
 have H : ((laws_szTermSS.f k l0 1000000).bind fun t187 => (if t187 < 0 then (some true) else ((laws_toTermSS.f k l0 false).bind fun t188 => ((spec_IsSystem.f k t188).bind fun t191 => ((laws_toTermSS.f k l0 false).bind fun t192 => ((impl_IsSystem.f k t192).bind fun t195 => (if (t195 != t191) = true then (none) else ((laws_toTermSS.f k l0 false).bind fun t196 => ((laws_intactTermSS.f t192 t196).bind fun t199 => (if t199 = true then ((laws_toTermSS.f k l0 true).bind fun t200 => ((impl_IsSystem.f k t200).bind fun t203 => (if (t203 != t191) = true then (none) else (some true)))) else (none))))))))))) = some r := h
 clear h
 replace H := Option.bind_eq_some_iff.mp H
 obtain ⟨t187, A20, H⟩ := H
 replace H : (if t187 < 0 then (some true) else ((laws_toTermSS.f k l0 false).bind fun t188 => ((spec_IsSystem.f k t188).bind fun t191 => ((laws_toTermSS.f k l0 false).bind fun t192 => ((impl_IsSystem.f k t192).bind fun t195 => (if (t195 != t191) = true then (none) else ((laws_toTermSS.f k l0 false).bind fun t196 => ((laws_intactTermSS.f t192 t196).bind fun t199 => (if t199 = true then ((laws_toTermSS.f k l0 true).bind fun t200 => ((impl_IsSystem.f k t200).bind fun t203 => (if (t203 != t191) = true then (none) else (some true)))) else (none)))))))))) = some r := H
 have A2 := Aside0.mk A20
 clear A20
 by_cases c3 : t187 < 0
 ·
  rw [if_pos c3] at H
  have c3b0 : decide (t187 < 0) = true := decide_eq_true c3
  clear c3
  obtain rfl := Option.some.inj H
  go_enter Try.func3, Try.ntmps3
  go_wp2_with (first | ((with_reducible refine gate_callee (f := 4) rfl ?_); refine goesL_ (some 10) rfl rfl Try.func4 (by kernel_rfl) rfl #[.slice A0 l0.length c0, .int .i64 1000000] rfl zq6 ?_; (with_reducible refine (laws_szTermSS.calls k _ _ l0 1000000 t187 _ ?side1 ?side2 A2.out).mono ?_); (case side1 => repeat (first | exact HR0.out | (with_reducible refine Kd.C_alloc ?_ _) | (with_reducible refine Kd.C_drewN ?_ _) | (with_reducible refine Kd.C_drew ?_))); (case side2 => exact HC0.out); rintro e w' ⟨rfl, ⟨nd, rfl⟩⟩; refine ⟨_, rfl, ?_⟩))
  go_ret
  exact ⟨by first | rfl | (simp [errW_none, errW_some] <;> rfl) | (simp [*, errW_none, errW_some] <;> rfl), (zb0 HB)⟩
 ·
  rw [if_neg c3] at H
  have c3b0 : decide (t187 < 0) = false := decide_eq_false c3
  clear c3
  replace H := Option.bind_eq_some_iff.mp H
  obtain ⟨t188, A40, H⟩ := H
  replace H : ((spec_IsSystem.f k t188).bind fun t191 => ((laws_toTermSS.f k l0 false).bind fun t192 => ((impl_IsSystem.f k t192).bind fun t195 => (if (t195 != t191) = true then (none) else ((laws_toTermSS.f k l0 false).bind fun t196 => ((laws_intactTermSS.f t192 t196).bind fun t199 => (if t199 = true then ((laws_toTermSS.f k l0 true).bind fun t200 => ((impl_IsSystem.f k t200).bind fun t203 => (if (t203 != t191) = true then (none) else (some true)))) else (none)))))))) = some r := H
  have A4 := Aside0.mk A40
  clear A40
  replace H := Option.bind_eq_some_iff.mp H
  obtain ⟨t191, A50, H⟩ := H
  replace H : ((laws_toTermSS.f k l0 false).bind fun t192 => ((impl_IsSystem.f k t192).bind fun t195 => (if (t195 != t191) = true then (none) else ((laws_toTermSS.f k l0 false).bind fun t196 => ((laws_intactTermSS.f t192 t196).bind fun t199 => (if t199 = true then ((laws_toTermSS.f k l0 true).bind fun t200 => ((impl_IsSystem.f k t200).bind fun t203 => (if (t203 != t191) = true then (none) else (some true)))) else (none))))))) = some r := H
  have A5 := Aside0.mk A50
  clear A50
  replace H := Option.bind_eq_some_iff.mp H
  obtain ⟨t192, A60, H⟩ := H
  replace H : ((impl_IsSystem.f k t192).bind fun t195 => (if (t195 != t191) = true then (none) else ((laws_toTermSS.f k l0 false).bind fun t196 => ((laws_intactTermSS.f t192 t196).bind fun t199 => (if t199 = true then ((laws_toTermSS.f k l0 true).bind fun t200 => ((impl_IsSystem.f k t200).bind fun t203 => (if (t203 != t191) = true then (none) else (some true)))) else (none)))))) = some r := H
  have A6 := Aside0.mk A60
  clear A60
  replace H := Option.bind_eq_some_iff.mp H
  obtain ⟨t195, A70, H⟩ := H
  replace H : (if (t195 != t191) = true then (none) else ((laws_toTermSS.f k l0 false).bind fun t196 => ((laws_intactTermSS.f t192 t196).bind fun t199 => (if t199 = true then ((laws_toTermSS.f k l0 true).bind fun t200 => ((impl_IsSystem.f k t200).bind fun t203 => (if (t203 != t191) = true then (none) else (some true)))) else (none))))) = some r := H
  have A7 := Aside0.mk A70
  clear A70
  by_cases c8 : (t195 != t191) = true
  ·
   rw [if_pos c8] at H
   exact absurd H (by simp)
  ·
   rw [if_neg c8] at H
   have c8b0 : (t195 != t191) = false := by simpa using c8
   (try (have c8b1 : decide (t195 = t191) = true := by simpa using c8))
   (try (have c8b2 : (t195 == t191) = true := by simpa using c8))
   clear c8
   replace H := Option.bind_eq_some_iff.mp H
   obtain ⟨t196, A90, H⟩ := H
   replace H : ((laws_intactTermSS.f t192 t196).bind fun t199 => (if t199 = true then ((laws_toTermSS.f k l0 true).bind fun t200 => ((impl_IsSystem.f k t200).bind fun t203 => (if (t203 != t191) = true then (none) else (some true)))) else (none))) = some r := H
   have A9 := Aside0.mk A90
   clear A90
   replace H := Option.bind_eq_some_iff.mp H
   obtain ⟨t199, A100, H⟩ := H
   replace H : (if t199 = true then ((laws_toTermSS.f k l0 true).bind fun t200 => ((impl_IsSystem.f k t200).bind fun t203 => (if (t203 != t191) = true then (none) else (some true)))) else (none)) = some r := H
   have A10 := Aside0.mk A100
   clear A100
   by_cases c11 : t199 = true
   ·
    subst c11
    have H1 : ((laws_toTermSS.f k l0 true).bind fun t200 => ((impl_IsSystem.f k t200).bind fun t203 => (if (t203 != t191) = true then (none) else (some true)))) = some r := by rw [if_pos rfl] at H; exact H
    clear H
    have H := H1
    clear H1
    replace H := Option.bind_eq_some_iff.mp H
    obtain ⟨t200, A120, H⟩ := H
    replace H : ((impl_IsSystem.f k t200).bind fun t203 => (if (t203 != t191) = true then (none) else (some true))) = some r := H
    have A12 := Aside0.mk A120
    clear A120
    replace H := Option.bind_eq_some_iff.mp H
    obtain ⟨t203, A130, H⟩ := H
    replace H : (if (t203 != t191) = true then (none) else (some true)) = some r := H
    have A13 := Aside0.mk A130
    clear A130
    by_cases c14 : (t203 != t191) = true
    ·
     rw [if_pos c14] at H
     exact absurd H (by simp)
    ·
     rw [if_neg c14] at H
     have c14b0 : (t203 != t191) = false := by simpa using c14
     (try (have c14b1 : decide (t203 = t191) = true := by simpa using c14))
     (try (have c14b2 : (t203 == t191) = true := by simpa using c14))
     clear c14
     obtain rfl := Option.some.inj H
     go_enter Try.func3, Try.ntmps3
     go_wp2_with (first | ((with_reducible refine gate_callee (f := 4) rfl ?_); refine goesL_ (some 10) rfl rfl Try.func4 (by kernel_rfl) rfl #[.slice A0 l0.length c0, .int .i64 1000000] rfl zq6 ?_; (with_reducible refine (laws_szTermSS.calls k _ _ l0 1000000 t187 _ ?side1 ?side2 A2.out).mono ?_); (case side1 => repeat (first | exact HR0.out | (with_reducible refine Kd.C_alloc ?_ _) | (with_reducible refine Kd.C_drewN ?_ _) | (with_reducible refine Kd.C_drew ?_))); (case side2 => exact HC0.out); rintro e w' ⟨rfl, ⟨nd, rfl⟩⟩; refine ⟨_, rfl, ?_⟩) | ((with_reducible refine gate_callee (f := 6) rfl ?_); refine goesL_ (some 14) rfl rfl Try.func6 (by kernel_rfl) rfl #[.slice A0 l0.length c0, .bool false] rfl zq6 ?_; (with_reducible refine (laws_toTermSS.calls k _ _ l0 false t188 _ ?side1 ?side2 A4.out).mono ?_); (case side1 => repeat (first | exact HR0.out | (with_reducible refine Kd.C_alloc ?_ _) | (with_reducible refine Kd.C_drewN ?_ _) | (with_reducible refine Kd.C_drew ?_))); (case side2 => exact HC0.out); rintro e w15 ⟨Ao16, co16, rfl, hq, hl, hb⟩; refine ⟨_, rfl, ?_⟩; have HO190 := Aside0.mk (And.intro hq hl); (try clear hq hl); replace HB := Aside0.mk (below_step (zb0 HB) hb); (try clear hb); (try clear hb2); (try clear hk); (try clear hi); (try clear ho0)) | ((with_reducible refine gate_callee (f := 5) rfl ?_); refine goesL_ (some 15) rfl rfl Try.func5 (by kernel_rfl) rfl #[.slice Ao16 t188.length co16] rfl zq6 ?_; (with_reducible refine (spec_IsSystem.calls k _ _ t188 t191 _ ?side1 ?side2 A5.out).mono ?_); (case side1 => repeat (first | exact (qC (And.intro (qP HO190) HO190.out.2)) | (with_reducible refine Kd.C_alloc ?_ _) | (with_reducible refine Kd.C_drewN ?_ _) | (with_reducible refine Kd.C_drew ?_))); (case side2 => exact (qL HO190.out)); rintro e w17 ⟨rfl, hb⟩; refine ⟨_, rfl, ?_⟩; replace HO190 := Aside0.mk (qB HO190 hb); replace HB := Aside0.mk (below_step (zb0 HB) hb); (try clear hb); (try clear hb2); (try clear hk); (try clear hi)) | ((with_reducible refine gate_callee (f := 6) rfl ?_); refine goesL_ (some 17) rfl rfl Try.func6 (by kernel_rfl) rfl #[.slice A0 l0.length c0, .bool false] rfl zq6 ?_; (with_reducible refine (laws_toTermSS.calls k _ _ l0 false t192 _ ?side1 ?side2 A6.out).mono ?_); (case side1 => repeat (first | exact (Kd.C_below HR0.out HB.out) | (with_reducible refine Kd.C_alloc ?_ _) | (with_reducible refine Kd.C_drewN ?_ _) | (with_reducible refine Kd.C_drew ?_))); (case side2 => exact HC0.out); rintro e w18 ⟨Ao19, co19, rfl, hq, hl, hb⟩; refine ⟨_, rfl, ?_⟩; have HO194 := Aside0.mk (And.intro hq hl); (try clear hq hl); replace HB := Aside0.mk (below_step (zb0 HB) hb); (try clear hb); (try clear hb2); (try clear hk); (try clear hi); (try clear ho0)) | ((with_reducible refine gate_callee (f := 7) rfl ?_); refine goesL_ (some 19) rfl rfl Try.func7 (by kernel_rfl) rfl #[.slice Ao19 t192.length co19] rfl zq6 ?_; (with_reducible refine (impl_IsSystem.calls k _ _ t192 t195 _ ?side1 ?side2 A7.out).mono ?_); (case side1 => repeat (first | exact (qC (And.intro (qP HO194) HO194.out.2)) | (with_reducible refine Kd.C_alloc ?_ _) | (with_reducible refine Kd.C_drewN ?_ _) | (with_reducible refine Kd.C_drew ?_))); (case side2 => exact (qL HO194.out)); rintro e w20 ⟨rfl, hb⟩; refine ⟨_, rfl, ?_⟩; replace HO194 := Aside0.mk (qB HO194 hb); replace HB := Aside0.mk (below_step (zb0 HB) hb); (try clear hb); (try clear hb2); (try clear hk); (try clear hi)) | ((with_reducible refine gate_callee (f := 6) rfl ?_); refine goesL_ (some 25) rfl rfl Try.func6 (by kernel_rfl) rfl #[.slice A0 l0.length c0, .bool false] rfl zq6 ?_; (with_reducible refine (laws_toTermSS.calls k _ _ l0 false t196 _ ?side1 ?side2 A9.out).mono ?_); (case side1 => repeat (first | exact (Kd.C_below HR0.out HB.out) | (with_reducible refine Kd.C_alloc ?_ _) | (with_reducible refine Kd.C_drewN ?_ _) | (with_reducible refine Kd.C_drew ?_))); (case side2 => exact HC0.out); rintro e w21 ⟨Ao22, co22, rfl, hq, hl, hb⟩; refine ⟨_, rfl, ?_⟩; have HO198 := Aside0.mk (And.intro hq hl); (try clear hq hl); replace HO194 := Aside0.mk (qB HO194 hb); replace HB := Aside0.mk (below_step (zb0 HB) hb); (try clear hb); (try clear hb2); (try clear hk); (try clear hi); (try clear ho0)) | ((with_reducible refine gate_callee (f := 8) rfl ?_); refine goesL_ (some 26) rfl rfl Try.func8 (by kernel_rfl) rfl #[.slice Ao19 t192.length co19, .slice Ao22 t196.length co22] rfl zq6 ?_; (with_reducible refine (laws_intactTermSS.calls _ _ t192 _ _ t196 true _ ?side1 ?side2 ?side3 ?side4 A10.out ?sideF1 ?sideG1 ?sideF2 ?sideG2).mono ?_); (case side1 => repeat (first | exact (qC (And.intro (qP HO194) HO194.out.2)) | (with_reducible refine Kd.C_alloc ?_ _) | (with_reducible refine Kd.C_drewN ?_ _) | (with_reducible refine Kd.C_drew ?_))); (case side2 => exact (qL HO194.out)); (case side3 => repeat (first | exact (qC (And.intro (qP HO198) HO198.out.2)) | (with_reducible refine Kd.C_alloc ?_ _) | (with_reducible refine Kd.C_drewN ?_ _) | (with_reducible refine Kd.C_drew ?_))); (case side4 => exact (qL HO198.out)); (case sideF1 => exact qP HO194); (case sideG1 => exact HO194.out.2); (case sideF2 => exact qP HO198); (case sideG2 => exact HO198.out.2); rintro e w23 ⟨rfl, hb⟩; refine ⟨_, rfl, ?_⟩; replace HO194 := Aside0.mk (qB HO194 hb); replace HO198 := Aside0.mk (qB HO198 hb); replace HB := Aside0.mk (below_step (zb0 HB) hb); (try clear hb); (try clear hb2); (try clear hk); (try clear hi)) | ((with_reducible refine gate_callee (f := 6) rfl ?_); refine goesL_ (some 29) rfl rfl Try.func6 (by kernel_rfl) rfl #[.slice A0 l0.length c0, .bool true] rfl zq6 ?_; (with_reducible refine (laws_toTermSS.calls k _ _ l0 true t200 _ ?side1 ?side2 A12.out).mono ?_); (case side1 => repeat (first | exact (Kd.C_below HR0.out HB.out) | (with_reducible refine Kd.C_alloc ?_ _) | (with_reducible refine Kd.C_drewN ?_ _) | (with_reducible refine Kd.C_drew ?_))); (case side2 => exact HC0.out); rintro e w24 ⟨Ao25, co25, rfl, hq, hl, hb⟩; refine ⟨_, rfl, ?_⟩; have HO202 := Aside0.mk (And.intro hq hl); (try clear hq hl); replace HB := Aside0.mk (below_step (zb0 HB) hb); (try clear hb); (try clear hb2); (try clear hk); (try clear hi); (try clear ho0)) | ((with_reducible refine gate_callee (f := 7) rfl ?_); refine goesL_ (some 30) rfl rfl Try.func7 (by kernel_rfl) rfl #[.slice Ao25 t200.length co25] rfl zq6 ?_; (with_reducible refine (impl_IsSystem.calls k _ _ t200 t203 _ ?side1 ?side2 A13.out).mono ?_); (case side1 => repeat (first | exact (qC (And.intro (qP HO202) HO202.out.2)) | (with_reducible refine Kd.C_alloc ?_ _) | (with_reducible refine Kd.C_drewN ?_ _) | (with_reducible refine Kd.C_drew ?_))); (case side2 => exact (qL HO202.out)); rintro e w26 ⟨rfl, hb⟩; refine ⟨_, rfl, ?_⟩; replace HO202 := Aside0.mk (qB HO202 hb); replace HB := Aside0.mk (below_step (zb0 HB) hb); (try clear hb); (try clear hb2); (try clear hk); (try clear hi)))
     go_ret
     exact ⟨by first | rfl | (simp [errW_none, errW_some] <;> rfl) | (simp [*, errW_none, errW_some] <;> rfl), (zb0 HB)⟩
   ·
    replace c11 := Bool.eq_false_iff.mpr c11
    subst c11
    have H1 : (none) = some r := by rw [if_neg (show ¬ (false = true) by decide)] at H; exact H
    clear H
    have H := H1
    clear H1
    exact absurd H (by simp)
end Go.Proofs.Ytemjjknnelngcaa.PD
