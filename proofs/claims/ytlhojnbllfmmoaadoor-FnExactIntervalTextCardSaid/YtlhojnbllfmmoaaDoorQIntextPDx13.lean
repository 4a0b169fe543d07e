-- By wip/mk/drv.py
import Derived.Test.YtlhojnbllfmmoaaDoorQIntextPDx0
import Derived.Test.YtlhojnbllfmmoaaDoorQIntextPDx1
import Derived.Test.YtlhojnbllfmmoaaDoorQIntextPDx7
namespace Go.Proofs.YtlhojnbllfmmoaaDoor.PD
open Go.RowKit Go.Proofs.YtlhojnbllfmmoaaDoorW.PrintWords Go.Proofs.YtlhojnbllfmmoaaDoorW.PrintLast Go.Proofs.YtlhojnbllfmmoaaDoorW.PrintMore
attribute [local go_sem] max2_int min2_int max_two min_two max_three min_three max_four min_four
set_option linter.unusedVariables false
set_option linter.unusedSimpArgs false
/-! ### spec_ivText: function 16 -/
def spec_ivText.T1 : Bool × List (List Nat × List Nat) := (true, [([], []), ([0], [0]), ([1], [1]), ([2], [2]), ([3], [3]), ([], []), ([5], [5]), ([6, 2], [6]), ([4, 7], [4, 7]), ([8], [8]), ([9, 7, 0, 1, 2, 3, 4, 5, 6, 7, 8, 9], [9])])
def spec_ivText.B1 : List Nat := [0, 1, 3, 7, 15, 0, 32, 103, 255, 511, 1023]
theorem spec_ivText.tab1 : rtab .any (opsOf Tryd.f16 1) = spec_ivText.T1 := by kernel_rfl
theorem spec_ivText.bits1 : waitsOk spec_ivText.T1.2 spec_ivText.B1 = true := by kernel_rfl
set_option maxHeartbeats 8000000 in
set_option maxRecDepth 100000 in
theorem spec_ivText.calls (k : Nat) (a0_0 : Int) (a0_1 : Int) (a0_2 : Int) (a0_3 : Int) (r : ByteArray) (w : World) (h : spec_ivText.f k a0_0 a0_1 a0_2 a0_3 = some r) :
  Calls Tryd.prog 16 #[.agg #[.int .i64 a0_0, .int .i64 a0_1, .int .i64 a0_2, .int .i64 a0_3]] w fun e w' => e = .returned (.string r) ∧ Below w.heap.size w w' := by
 have hu33 := Tryd.underlying33
 have hu26 := Tryd.underlying26
 have HB := Aside0.mk (Below.refl w.heap.size w)
 have H : ((spec_dyText.f k a0_0 a0_1).bind fun t185 => (if 1 + t185.size ≤ 9223372036854775807 then (if ((⟨#[91]⟩ : ByteArray) ++ t185).size + 1 ≤ 9223372036854775807 then ((spec_dyText.f k a0_2 a0_3).bind fun t186 => (if (((⟨#[91]⟩ : ByteArray) ++ t185) ++ (⟨#[44]⟩ : ByteArray)).size + t186.size ≤ 9223372036854775807 then (if ((((⟨#[91]⟩ : ByteArray) ++ t185) ++ (⟨#[44]⟩ : ByteArray)) ++ t186).size + 1 ≤ 9223372036854775807 then (some (((((⟨#[91]⟩ : ByteArray) ++ t185) ++ (⟨#[44]⟩ : ByteArray)) ++ t186) ++ (⟨#[93]⟩ : ByteArray))) else (none)) else (none))) else (none)) else (none))) = some r := h
 clear h
 replace H := Option.bind_eq_some_iff.mp H
 obtain ⟨t185, A20, H⟩ := H
 replace H : (if 1 + t185.size ≤ 9223372036854775807 then (if ((⟨#[91]⟩ : ByteArray) ++ t185).size + 1 ≤ 9223372036854775807 then ((spec_dyText.f k a0_2 a0_3).bind fun t186 => (if (((⟨#[91]⟩ : ByteArray) ++ t185) ++ (⟨#[44]⟩ : ByteArray)).size + t186.size ≤ 9223372036854775807 then (if ((((⟨#[91]⟩ : ByteArray) ++ t185) ++ (⟨#[44]⟩ : ByteArray)) ++ t186).size + 1 ≤ 9223372036854775807 then (some (((((⟨#[91]⟩ : ByteArray) ++ t185) ++ (⟨#[44]⟩ : ByteArray)) ++ t186) ++ (⟨#[93]⟩ : ByteArray))) else (none)) else (none))) else (none)) else (none)) = some r := H
 have A2 := Aside0.mk A20
 clear A20
 by_cases c3 : 1 + t185.size ≤ 9223372036854775807
 ·
  rw [if_pos c3] at H
  have c3b0 := eq_true c3
  have c3b1 : decide (1 + t185.size ≤ 9223372036854775807) = true := decide_eq_true c3
  try have c3b2 : (9223372036854775807 < 1 + t185.size) = False := eq_false (Nat.not_lt.2 c3)
  by_cases c4 : ((⟨#[91]⟩ : ByteArray) ++ t185).size + 1 ≤ 9223372036854775807
  ·
   rw [if_pos c4] at H
   have c4b0 := eq_true c4
   have c4b1 : decide (((⟨#[91]⟩ : ByteArray) ++ t185).size + 1 ≤ 9223372036854775807) = true := decide_eq_true c4
   try have c4b2 : (9223372036854775807 < ((⟨#[91]⟩ : ByteArray) ++ t185).size + 1) = False := eq_false (Nat.not_lt.2 c4)
   try have c4b9 : (9223372036854775807 < 1 + t185.size + 1) = False := eq_false (Nat.not_lt.2 (by have h_ := c4; simp only [ByteArray.size_append] at h_; exact h_))
   replace H := Option.bind_eq_some_iff.mp H
   obtain ⟨t186, A50, H⟩ := H
   replace H : (if (((⟨#[91]⟩ : ByteArray) ++ t185) ++ (⟨#[44]⟩ : ByteArray)).size + t186.size ≤ 9223372036854775807 then (if ((((⟨#[91]⟩ : ByteArray) ++ t185) ++ (⟨#[44]⟩ : ByteArray)) ++ t186).size + 1 ≤ 9223372036854775807 then (some (((((⟨#[91]⟩ : ByteArray) ++ t185) ++ (⟨#[44]⟩ : ByteArray)) ++ t186) ++ (⟨#[93]⟩ : ByteArray))) else (none)) else (none)) = some r := H
   have A5 := Aside0.mk A50
   clear A50
   by_cases c6 : (((⟨#[91]⟩ : ByteArray) ++ t185) ++ (⟨#[44]⟩ : ByteArray)).size + t186.size ≤ 9223372036854775807
   ·
    rw [if_pos c6] at H
    have c6b0 := eq_true c6
    have c6b1 : decide ((((⟨#[91]⟩ : ByteArray) ++ t185) ++ (⟨#[44]⟩ : ByteArray)).size + t186.size ≤ 9223372036854775807) = true := decide_eq_true c6
    try have c6b2 : (9223372036854775807 < (((⟨#[91]⟩ : ByteArray) ++ t185) ++ (⟨#[44]⟩ : ByteArray)).size + t186.size) = False := eq_false (Nat.not_lt.2 c6)
    try have c6b9 : (9223372036854775807 < 1 + t185.size + 1 + t186.size) = False := eq_false (Nat.not_lt.2 (by have h_ := c6; simp only [ByteArray.size_append] at h_; exact h_))
    by_cases c7 : ((((⟨#[91]⟩ : ByteArray) ++ t185) ++ (⟨#[44]⟩ : ByteArray)) ++ t186).size + 1 ≤ 9223372036854775807
    ·
     rw [if_pos c7] at H
     have c7b0 := eq_true c7
     have c7b1 : decide (((((⟨#[91]⟩ : ByteArray) ++ t185) ++ (⟨#[44]⟩ : ByteArray)) ++ t186).size + 1 ≤ 9223372036854775807) = true := decide_eq_true c7
     try have c7b2 : (9223372036854775807 < ((((⟨#[91]⟩ : ByteArray) ++ t185) ++ (⟨#[44]⟩ : ByteArray)) ++ t186).size + 1) = False := eq_false (Nat.not_lt.2 c7)
     try have c7b9 : (9223372036854775807 < 1 + t185.size + 1 + t186.size + 1) = False := eq_false (Nat.not_lt.2 (by have h_ := c7; simp only [ByteArray.size_append] at h_; exact h_))
     obtain rfl := Option.some.inj H
     go_enter Tryd.func16, Tryd.ntmps16
     try go_wp2_with (first | ((with_reducible refine gate_dst (N := 1) rfl ?_); refine zbe (N := 1) (cs := #[.int .i64 a0_0, .int .i64 a0_1, .int .i64 a0_2, .int .i64 a0_3]) (t := 33) ?_; intro gb184 hg w8 hbox hb; have BK184 := Aside0.mk (hbox); have GW184 := Aside0.mk (zge (zb0 HB) hg); have GE184 := GW184; replace HB := Aside0.mk (below_step (zb0 HB) hb); clear hb hbox hg))
     replace BK184 := Aside0.mk (blk_drew BK184.out); replace HB := Aside0.mk (below_drew1 HB.out)
     refine start_ (n := 11) (S := fun w' => w'.cell? ⟨gb184, 0, none⟩ = some (.int .i64 a0_0) ∧ w'.cell? ⟨gb184, 1, none⟩ = some (.int .i64 a0_1) ∧ w'.cell? ⟨gb184, 2, none⟩ = some (.int .i64 a0_2) ∧ w'.cell? ⟨gb184, 3, none⟩ = some (.int .i64 a0_3)) (ds := []) #[false, false, false, false, false, false, false, false, false, false, false] (by kernel_rfl) rfl rfl ⟨zc BK184 0, zc BK184 1, zc BK184 2, zc BK184 3⟩ (fun hHeld => ?_); refine with_tabW spec_ivText.tab1 spec_ivText.bits1 (fun HT_ HW_ => ?_)
     generalize w8.drew = w9 at BK184 HB hHeld ⊢
     refine zp (i := 0) (N := some 3) #[true, false, false, false, false, false, false, false, false, false, false] (any_of HT_.out (by kernel_rfl)) ?_
     refine zp (i := 5) (N := some 8) #[true, false, false, false, false, true, false, false, false, false, false] (any_of HT_.out (by kernel_rfl)) ?_
     refine take_ (i := 1) (N := some 4) (v := ?_) (a' := ?_) #[true, true, false, false, false, true, false, false, false, false, false] rfl rfl (take_ofW HT_.out HW_.out (by kernel_rfl)) (fun _ _ _ h => h) (Or.inl ⟨by rfl, ?_⟩) hHeld ?_ ?_
     rotate_left
     ·
      rintro w' ⟨s0, s1, s2, s3⟩
      go_simp
      with_reducible rfl
     rotate_left
     ·
      simp only [Act.put, List.setIfInBounds_toArray, List.set_cons_zero, List.set_cons_succ, i64_w, i32_w]
      rfl
     refine take_ (i := 6) (N := some 9) (v := ?_) (a' := ?_) #[true, true, false, false, false, true, true, false, false, false, false] rfl rfl (take_ofW HT_.out HW_.out (by kernel_rfl)) (fun _ _ _ h => h) (Or.inl ⟨by rfl, ?_⟩) hHeld ?_ ?_
     rotate_left
     ·
      rintro w' ⟨s0, s1, s2, s3⟩
      go_simp
      with_reducible rfl
     rotate_left
     ·
      simp only [Act.put, List.setIfInBounds_toArray, List.set_cons_zero, List.set_cons_succ, i64_w, i32_w]
      rfl
     refine one_ (i := 2) (N := some 5) #[true, true, true, false, false, true, true, false, false, false, false] rfl rfl (one_of HT_.out (by kernel_rfl)) (by decide) (fun K hK => ?_)
     refine goes_ Tryd.func12 (by kernel_rfl) rfl #[.agg #[.int .i64 a0_0, .int .i64 a0_1]] (by rfl) rfl rfl zq6 ?_
     with_reducible refine (spec_dyText.calls k a0_0 a0_1 t185 _ A2.out).mono ?_
     rintro e w10 ⟨rfl, hb⟩
     refine ⟨_, rfl, ?_⟩
     replace BK184 := Aside0.mk (zbb BK184 hb); replace HB := Aside0.mk (below_step (zb1 HB) hb)
     (try clear hb)
     (try clear hb2)
     (try clear hk)
     (try clear hi)
     refine hK.out _ _ ⟨zc BK184 0, zc BK184 1, zc BK184 2, zc BK184 3⟩ (fun hHeld => ?_)
     clear hK K
     refine norm_ (a' := ?_) ?_ ?_
     rotate_left
     ·
      show Act.put _ (some 5) _ = _
      simp only [Act.put, List.setIfInBounds_toArray, List.set_cons_zero, List.set_cons_succ, i64_w, i32_w]; rfl
     refine zp (i := 3) (N := some 6) #[true, true, true, true, false, true, true, false, false, false, false] (any_of HT_.out (by kernel_rfl)) ?_
     refine zp (i := 4) (N := some 7) #[true, true, true, true, true, true, true, false, false, false, false] (any_of HT_.out (by kernel_rfl)) ?_
     refine one_ (i := 7) (N := some 10) #[true, true, true, true, true, true, true, true, false, false, false] rfl rfl (one_of HT_.out (by kernel_rfl)) (by decide) (fun K hK => ?_)
     refine goes_ Tryd.func12 (by kernel_rfl) rfl #[.agg #[.int .i64 a0_2, .int .i64 a0_3]] (by rfl) rfl rfl zq6 ?_
     with_reducible refine (spec_dyText.calls k a0_2 a0_3 t186 _ A5.out).mono ?_
     rintro e w11 ⟨rfl, hb⟩
     refine ⟨_, rfl, ?_⟩
     replace BK184 := Aside0.mk (zbb BK184 hb); replace HB := Aside0.mk (below_step (zb1 HB) hb)
     (try clear hb)
     (try clear hb2)
     (try clear hk)
     (try clear hi)
     refine hK.out _ _ ⟨zc BK184 0, zc BK184 1, zc BK184 2, zc BK184 3⟩ (fun hHeld => ?_)
     clear hK K
     refine norm_ (a' := ?_) ?_ ?_
     rotate_left
     ·
      show Act.put _ (some 10) _ = _
      simp only [Act.put, List.setIfInBounds_toArray, List.set_cons_zero, List.set_cons_succ, i64_w, i32_w]; rfl
     refine zp (i := 8) (N := some 11) #[true, true, true, true, true, true, true, true, true, false, false] (any_of HT_.out (by kernel_rfl)) ?_
     refine zp (i := 9) (N := some 12) #[true, true, true, true, true, true, true, true, true, true, false] (any_of HT_.out (by kernel_rfl)) ?_
     refine zp (i := 10) (N := some 2) #[true, true, true, true, true, true, true, true, true, true, true] (any_of HT_.out (by kernel_rfl)) ?_
     refine done_ (done_of HT_.out (by kernel_rfl)) ?_
     try go_wp2
     go_ret
     exact ⟨by first | rfl | (simp [errW_none, errW_some] <;> rfl) | (simp [*, errW_none, errW_some] <;> rfl), (zb1 HB)⟩
    ·
     rw [if_neg c7] at H
     exact absurd H (by simp)
   ·
    rw [if_neg c6] at H
    exact absurd H (by simp)
  ·
   rw [if_neg c4] at H
   exact absurd H (by simp)
 ·
  rw [if_neg c3] at H
  exact absurd H (by simp)
end Go.Proofs.YtlhojnbllfmmoaaDoor.PD
