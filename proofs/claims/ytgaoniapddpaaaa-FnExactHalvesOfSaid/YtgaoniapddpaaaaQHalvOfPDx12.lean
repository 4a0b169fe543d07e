-- By wip/mk/drv.py
import Derived.Test.YtgaoniapddpaaaaQHalvOfPDx0
import Derived.Test.YtgaoniapddpaaaaQHalvOfPDx1
import Derived.Test.YtgaoniapddpaaaaQHalvOfPDx3
import Derived.Test.YtgaoniapddpaaaaQHalvOfPDx20
namespace Go.Proofs.Ytgaoniapddpaaaa.PD
open Go.RowKit Go.Proofs.YtgaoniapddpaaaaW.PrintWords Go.Proofs.YtgaoniapddpaaaaW.PrintLast Go.Proofs.YtgaoniapddpaaaaW.PrintMore
attribute [local go_sem] max2_int min2_int max_two min_two max_three min_three max_four min_four
set_option linter.unusedVariables false
set_option linter.unusedSimpArgs false
/-! ### impl_isBox: function 57 -/
theorem z57_0 {P Q : Prop} (h : Aside0 (Q)) (f : Q → P := by intro h_; repeat (first | (with_reducible first | exact h_ | apply IsS27.alloc | apply IsS27.drewN | apply IsS27.drew | apply IsS27.set_0) | exact h_)) : P := f h.out
theorem z57_1 {w W0 W1 : World} {g : Nat} {row : Option Nat} (h : Aside0 (KeepBut w W0 g row)) (f : KeepBut w W0 g row → KeepBut w W1 g row := by intro h_; repeat (first | (with_reducible first | exact h_ | apply KeepBut.set_ | apply keep_drewN | apply keep_drew | apply keep_alloc) | exact h_)) : KeepBut w W1 g row := f h.out
theorem z57_2 {w W0 W1 : World} {B : Nat} (h : Aside0 (Below B w W0)) (f : Below B w W0 → Below B w W1 := by intro h_; repeat (first | (with_reducible first | exact h_ | apply below_alloc | apply pw_below_drewN | apply below_drew1 | refine below_set ?_ (IsS27.ge (Aside0.out (by assumption)))) | exact h_)) : Below B w W1 := f h.out
set_option maxHeartbeats 8000000 in
set_option maxRecDepth 100000 in
theorem impl_isBox.calls (k : Nat) (g : Nat) (s0_0 : Int) (s0_1 : List Int) (s0_2 : List Int) (r1 : Bool) (r2 : Int) (w0 w : World) (hI : IsS27 w0 w g s0_0 s0_1 s0_2) (hB : Below w0.heap.size w0 w) (h : impl_isBox.f k s0_0 s0_1 s0_2 = some (r1, r2)) :
  Calls Try.prog 57 #[.pointer (some ⟨g, 0, none⟩)] w fun e w' => e = .returned (.bool r1) ∧ IsS27 w0 w' g r2 s0_1 s0_2 ∧ Below w0.heap.size w0 w' ∧ KeepBut w w' g none := by
 have HI0 := Aside0.mk hI
 have HK := Aside0.mk (KeepBut.refl w g none)
 have HL := Aside0.mk hB.size
 clear hI
 have HW0 := Aside0.mk hB.size
 have HB := Aside0.mk hB
 clear hB
 have H : ((impl_inside.f s0_0 0 8).bind fun t178 => (if t178 = true then ((impl_inside.f (s0_1.length : Int) 1 3).bind fun t179 => (if t179 = true then (impl_isBox.j0 k ((s0_2.length : Int) != (s0_1.length : Int)) s0_0 s0_1 s0_2) else (impl_isBox.j0 k true s0_0 s0_1 s0_2))) else (impl_isBox.j0 k true s0_0 s0_1 s0_2))) = some (r1, r2) := h
 clear h
 have HC2 := Aside0.mk H
 clear H
 go_enter Try.func57, Try.ntmps57
 go_upto_region 1 with (fail)
 repeat (go_quiet (fail); go_upto_region 1 with (fail))
 go_cut [34] (fun v34 wc => ∃ (kq : Nat) (x34_1 : Bool), v34 = .bool x34_1 ∧ Aside0 (impl_isBox.j0 kq x34_1 s0_0 s0_1 s0_2 = some (r1, r2)) ∧ Aside0 (kq ≤ k) ∧ Aside0 (IsS27 w0 wc g s0_0 s0_1 s0_2) ∧ Aside0 (KeepBut w wc g none) ∧ Aside0 (Below w0.heap.size w0 wc))
 case first =>
  have H := HC2.out
  clear HC2
  replace H := Option.bind_eq_some_iff.mp H
  obtain ⟨t178, A30, H⟩ := H
  replace H : (if t178 = true then ((impl_inside.f (s0_1.length : Int) 1 3).bind fun t179 => (if t179 = true then (impl_isBox.j0 k ((s0_2.length : Int) != (s0_1.length : Int)) s0_0 s0_1 s0_2) else (impl_isBox.j0 k true s0_0 s0_1 s0_2))) else (impl_isBox.j0 k true s0_0 s0_1 s0_2)) = some (r1, r2) := H
  have A3 := Aside0.mk A30
  clear A30
  by_cases c4 : t178 = true
  ·
   subst c4
   have H1 : ((impl_inside.f (s0_1.length : Int) 1 3).bind fun t179 => (if t179 = true then (impl_isBox.j0 k ((s0_2.length : Int) != (s0_1.length : Int)) s0_0 s0_1 s0_2) else (impl_isBox.j0 k true s0_0 s0_1 s0_2))) = some (r1, r2) := by rw [if_pos rfl] at H; exact H
   clear H
   have H := H1
   clear H1
   replace H := Option.bind_eq_some_iff.mp H
   obtain ⟨t179, A50, H⟩ := H
   replace H : (if t179 = true then (impl_isBox.j0 k ((s0_2.length : Int) != (s0_1.length : Int)) s0_0 s0_1 s0_2) else (impl_isBox.j0 k true s0_0 s0_1 s0_2)) = some (r1, r2) := H
   have A5 := Aside0.mk A50
   clear A50
   by_cases c6 : t179 = true
   ·
    subst c6
    have H1 : (impl_isBox.j0 k ((s0_2.length : Int) != (s0_1.length : Int)) s0_0 s0_1 s0_2) = some (r1, r2) := by rw [if_pos rfl] at H; exact H
    clear H
    have H := H1
    clear H1
    have H' := Aside0.mk H
    clear H
    obtain ⟨ASz7_1, cSz7_1, ASz7_2, cSz7_2, HGz7, hgz7, HSz7_1, HSz7_2⟩ := HI0.out
    have hcz7_0 := cellS27_0 HGz7
    have hcz7_1 := cellS27_1 HGz7
    have hcz7_2 := cellS27_2 HGz7
    have hfz7_0 := blk_frozen HGz7 0
    clear HGz7 hgz7
    go_wp2_with (first | (go_at_call 73; (with_reducible refine (impl_inside.calls s0_0 0 8 true _ A3.out).mono ?_); rintro e w' ⟨rfl, ⟨nd, rfl⟩⟩; (try first | exact ⟨rfl, _, World.drewN_drewN _ _ _⟩ | exact ⟨rfl, _, Eq.trans (World.drewN_drewN _ _ _) (congrArg (World.drewN _) (Nat.add_assoc _ _ _))⟩)) | (go_at_call 73; (with_reducible refine (impl_inside.calls (s0_1.length : Int) 1 3 true _ A5.out).mono ?_); rintro e w' ⟨rfl, ⟨nd, rfl⟩⟩; (try first | exact ⟨rfl, _, World.drewN_drewN _ _ _⟩ | exact ⟨rfl, _, Eq.trans (World.drewN_drewN _ _ _) (congrArg (World.drewN _) (Nat.add_assoc _ _ _))⟩)))
    repeat (go_quiet (first | (go_at_call 73; (with_reducible refine (impl_inside.calls s0_0 0 8 true _ A3.out).mono ?_); rintro e w' ⟨rfl, ⟨nd, rfl⟩⟩; (try first | exact ⟨rfl, _, World.drewN_drewN _ _ _⟩ | exact ⟨rfl, _, Eq.trans (World.drewN_drewN _ _ _) (congrArg (World.drewN _) (Nat.add_assoc _ _ _))⟩)) | (go_at_call 73; (with_reducible refine (impl_inside.calls (s0_1.length : Int) 1 3 true _ A5.out).mono ?_); rintro e w' ⟨rfl, ⟨nd, rfl⟩⟩; (try first | exact ⟨rfl, _, World.drewN_drewN _ _ _⟩ | exact ⟨rfl, _, Eq.trans (World.drewN_drewN _ _ _) (congrArg (World.drewN _) (Nat.add_assoc _ _ _))⟩))); try go_wp2_with (first | (go_at_call 73; (with_reducible refine (impl_inside.calls s0_0 0 8 true _ A3.out).mono ?_); rintro e w' ⟨rfl, ⟨nd, rfl⟩⟩; (try first | exact ⟨rfl, _, World.drewN_drewN _ _ _⟩ | exact ⟨rfl, _, Eq.trans (World.drewN_drewN _ _ _) (congrArg (World.drewN _) (Nat.add_assoc _ _ _))⟩)) | (go_at_call 73; (with_reducible refine (impl_inside.calls (s0_1.length : Int) 1 3 true _ A5.out).mono ?_); rintro e w' ⟨rfl, ⟨nd, rfl⟩⟩; (try first | exact ⟨rfl, _, World.drewN_drewN _ _ _⟩ | exact ⟨rfl, _, Eq.trans (World.drewN_drewN _ _ _) (congrArg (World.drewN _) (Nat.add_assoc _ _ _))⟩))))
    go_meet
    case rel => exact ⟨_, (((s0_2.length : Int) != (s0_1.length : Int))), (by first | rfl | (simp; done) | (simp [*]; done)), H', ⟨by first | omega | exact Nat.le_refl _⟩, ⟨(z57_0 HI0)⟩, ⟨(z57_1 HK)⟩, ⟨(z57_2 HB)⟩⟩
   ·
    replace c6 := Bool.eq_false_iff.mpr c6
    subst c6
    have H1 : (impl_isBox.j0 k true s0_0 s0_1 s0_2) = some (r1, r2) := by rw [if_neg (show ¬ (false = true) by decide)] at H; exact H
    clear H
    have H := H1
    clear H1
    have H' := Aside0.mk H
    clear H
    obtain ⟨ASz8_1, cSz8_1, ASz8_2, cSz8_2, HGz8, hgz8, HSz8_1, HSz8_2⟩ := HI0.out
    have hcz8_0 := cellS27_0 HGz8
    have hcz8_1 := cellS27_1 HGz8
    have hcz8_2 := cellS27_2 HGz8
    have hfz8_0 := blk_frozen HGz8 0
    clear HGz8 hgz8
    go_wp2_with (first | (go_at_call 73; (with_reducible refine (impl_inside.calls s0_0 0 8 true _ A3.out).mono ?_); rintro e w' ⟨rfl, ⟨nd, rfl⟩⟩; (try first | exact ⟨rfl, _, World.drewN_drewN _ _ _⟩ | exact ⟨rfl, _, Eq.trans (World.drewN_drewN _ _ _) (congrArg (World.drewN _) (Nat.add_assoc _ _ _))⟩)) | (go_at_call 73; (with_reducible refine (impl_inside.calls (s0_1.length : Int) 1 3 false _ A5.out).mono ?_); rintro e w' ⟨rfl, ⟨nd, rfl⟩⟩; (try first | exact ⟨rfl, _, World.drewN_drewN _ _ _⟩ | exact ⟨rfl, _, Eq.trans (World.drewN_drewN _ _ _) (congrArg (World.drewN _) (Nat.add_assoc _ _ _))⟩)))
    repeat (go_quiet (first | (go_at_call 73; (with_reducible refine (impl_inside.calls s0_0 0 8 true _ A3.out).mono ?_); rintro e w' ⟨rfl, ⟨nd, rfl⟩⟩; (try first | exact ⟨rfl, _, World.drewN_drewN _ _ _⟩ | exact ⟨rfl, _, Eq.trans (World.drewN_drewN _ _ _) (congrArg (World.drewN _) (Nat.add_assoc _ _ _))⟩)) | (go_at_call 73; (with_reducible refine (impl_inside.calls (s0_1.length : Int) 1 3 false _ A5.out).mono ?_); rintro e w' ⟨rfl, ⟨nd, rfl⟩⟩; (try first | exact ⟨rfl, _, World.drewN_drewN _ _ _⟩ | exact ⟨rfl, _, Eq.trans (World.drewN_drewN _ _ _) (congrArg (World.drewN _) (Nat.add_assoc _ _ _))⟩))); try go_wp2_with (first | (go_at_call 73; (with_reducible refine (impl_inside.calls s0_0 0 8 true _ A3.out).mono ?_); rintro e w' ⟨rfl, ⟨nd, rfl⟩⟩; (try first | exact ⟨rfl, _, World.drewN_drewN _ _ _⟩ | exact ⟨rfl, _, Eq.trans (World.drewN_drewN _ _ _) (congrArg (World.drewN _) (Nat.add_assoc _ _ _))⟩)) | (go_at_call 73; (with_reducible refine (impl_inside.calls (s0_1.length : Int) 1 3 false _ A5.out).mono ?_); rintro e w' ⟨rfl, ⟨nd, rfl⟩⟩; (try first | exact ⟨rfl, _, World.drewN_drewN _ _ _⟩ | exact ⟨rfl, _, Eq.trans (World.drewN_drewN _ _ _) (congrArg (World.drewN _) (Nat.add_assoc _ _ _))⟩))))
    go_meet
    case rel => exact ⟨_, (true), (by first | rfl | (simp; done) | (simp [*]; done)), H', ⟨by first | omega | exact Nat.le_refl _⟩, ⟨(z57_0 HI0)⟩, ⟨(z57_1 HK)⟩, ⟨(z57_2 HB)⟩⟩
  ·
   replace c4 := Bool.eq_false_iff.mpr c4
   subst c4
   have H1 : (impl_isBox.j0 k true s0_0 s0_1 s0_2) = some (r1, r2) := by rw [if_neg (show ¬ (false = true) by decide)] at H; exact H
   clear H
   have H := H1
   clear H1
   have H' := Aside0.mk H
   clear H
   obtain ⟨ASz9_1, cSz9_1, ASz9_2, cSz9_2, HGz9, hgz9, HSz9_1, HSz9_2⟩ := HI0.out
   have hcz9_0 := cellS27_0 HGz9
   have hcz9_1 := cellS27_1 HGz9
   have hcz9_2 := cellS27_2 HGz9
   have hfz9_0 := blk_frozen HGz9 0
   clear HGz9 hgz9
   go_wp2_with (first | (go_at_call 73; (with_reducible refine (impl_inside.calls s0_0 0 8 false _ A3.out).mono ?_); rintro e w' ⟨rfl, ⟨nd, rfl⟩⟩; (try first | exact ⟨rfl, _, World.drewN_drewN _ _ _⟩ | exact ⟨rfl, _, Eq.trans (World.drewN_drewN _ _ _) (congrArg (World.drewN _) (Nat.add_assoc _ _ _))⟩)))
   repeat (go_quiet (first | (go_at_call 73; (with_reducible refine (impl_inside.calls s0_0 0 8 false _ A3.out).mono ?_); rintro e w' ⟨rfl, ⟨nd, rfl⟩⟩; (try first | exact ⟨rfl, _, World.drewN_drewN _ _ _⟩ | exact ⟨rfl, _, Eq.trans (World.drewN_drewN _ _ _) (congrArg (World.drewN _) (Nat.add_assoc _ _ _))⟩))); try go_wp2_with (first | (go_at_call 73; (with_reducible refine (impl_inside.calls s0_0 0 8 false _ A3.out).mono ?_); rintro e w' ⟨rfl, ⟨nd, rfl⟩⟩; (try first | exact ⟨rfl, _, World.drewN_drewN _ _ _⟩ | exact ⟨rfl, _, Eq.trans (World.drewN_drewN _ _ _) (congrArg (World.drewN _) (Nat.add_assoc _ _ _))⟩))))
   go_meet
   case rel => exact ⟨_, (true), (by first | rfl | (simp; done) | (simp [*]; done)), H', ⟨by first | omega | exact Nat.le_refl _⟩, ⟨(z57_0 HI0)⟩, ⟨(z57_1 HK)⟩, ⟨(z57_2 HB)⟩⟩
 case rest =>
  clear HC2
  try clear p2
  try clear c4
  try clear c5
  try clear c6
  try clear hcz7_0
  try clear hcz7_1
  try clear hcz7_2
  try clear hcz8_0
  try clear hcz8_1
  try clear hcz8_2
  try clear hcz9_0
  try clear hcz9_1
  try clear hcz9_2
  try clear hfz7_0
  try clear hfz8_0
  try clear hfz9_0
  obtain ⟨kq, x34_1, rfl, HA, HJ1, HI0, HK, HB⟩ := hcut
  cases kq with
  | zero => exact absurd HA.out (by simp [impl_isBox.j0])
  | succ kj1 =>
   have H := HA.out
   clear HA
   simp only [impl_isBox.j0] at H
   by_cases c10 : x34_1 = true
   ·
    subst c10
    have H1 : (some (false, s0_0)) = some (r1, r2) := by rw [if_pos rfl] at H; exact H
    clear H
    have H := H1
    clear H1
    simp only [Option.some.injEq, Prod.mk.injEq] at H
    obtain ⟨rfl, rfl⟩ := H
    go_wp2
    repeat (go_quiet (fail); try go_wp2)
    go_ret
    exact ⟨by first | rfl | (simp [errW_none, errW_some] <;> rfl) | (simp [*, errW_none, errW_some] <;> rfl), (z57_0 HI0), (z57_2 HB), (z57_1 HK)⟩
   ·
    replace c10 := Bool.eq_false_iff.mpr c10
    subst c10
    have H1 : (if 0 ≤ s0_0 then (impl_isBox.l0 kj1 (shl .i64 8 s0_0) (s0_0 == 0) s0_1 (s0_1.length : Int) 0 s0_0 s0_1 s0_2) else (none)) = some (r1, r2) := by rw [if_neg (show ¬ (false = true) by decide)] at H; exact H
    clear H
    have H := H1
    clear H1
    by_cases c11 : 0 ≤ s0_0
    ·
     rw [if_pos c11] at H
     have c11b0 := eq_true c11
     have c11b1 : decide (0 ≤ s0_0) = true := decide_eq_true c11
     clear c11
     obtain ⟨ji12, hji12⟩ : ∃ j_ : Int, (shl .i64 8 s0_0) = j_ := ⟨_, rfl⟩
     replace H : (impl_isBox.l0 kj1 ji12 (s0_0 == 0) s0_1 (s0_1.length : Int) 0 s0_0 s0_1 s0_2) = some (r1, r2) := by first | (rw [hji12] at H; exact H) | (simp only [hji12] at H ⊢; exact H)
     have hji12_ : (IntKind.i64.wrap (8 * 2 ^ min s0_0.toNat 64)) = ji12 := hji12
     have hji12z : s0_0 ≤ 64 → (IntKind.i64.wrap (8 * 2 ^ s0_0.toNat)) = ji12 := shl_small hji12
     have hji12y : (wrap64 (8 * 2 ^ min s0_0.toNat 64)) = ji12 := (i64_w _).symm.trans hji12_
     have hji12x : s0_0 ≤ 64 → (wrap64 (8 * 2 ^ s0_0.toNat)) = ji12 := fun h_ => (i64_w _).symm.trans (hji12z h_)
     have H' := Aside0.mk H
     clear H
     obtain ⟨ASz13_1, cSz13_1, ASz13_2, cSz13_2, HGz13, hgz13, HSz13_1, HSz13_2⟩ := HI0.out
     have hcz13_0 := cellS27_0 HGz13
     have hcz13_1 := cellS27_1 HGz13
     have hcz13_2 := cellS27_2 HGz13
     have hfz13_0 := blk_frozen HGz13 0
     clear HGz13 hgz13
     go_wp2
     repeat (go_quiet (fail); try go_wp2)
     go_loopg [4, 50] kj1 (fun kq v4 v50 w' => ∃ (x4_2 : Bool) (x50_2 : Int), v4 = .bool x4_2 ∧ v50 = .int .i64 x50_2 ∧ Aside0 (impl_isBox.l0 kq ji12 x4_2 s0_1 (s0_1.length : Int) x50_2 s0_0 s0_1 s0_2 = some (r1, r2)) ∧ Aside0 (kq ≤ kj1) ∧ Aside0 (IsS27 w0 w' g s0_0 s0_1 s0_2) ∧ Aside0 (KeepBut w w' g none) ∧ Aside0 (Below w0.heap.size w0 w'))
     case atStart => exact ⟨((s0_0 == 0)), (0), (by first | rfl | (simp; done) | (simp [*]; done)), (by first | rfl | (simp; done) | (simp [*]; done)), H', ⟨Nat.le_refl _⟩, ⟨(z57_0 HI0)⟩, ⟨(z57_1 HK)⟩, ⟨(z57_2 HB)⟩⟩
     case round =>
      clear H'
      try clear c1
      try clear p2
      try clear c4
      try clear c5
      try clear c6
      try clear p6
      try clear c10
      try clear c11
      try clear c11b0
      try clear c11b1
      try clear hcz13_0
      try clear hcz13_1
      try clear hcz13_2
      try clear hcz7_0
      try clear hcz7_1
      try clear hcz7_2
      try clear hcz8_0
      try clear hcz8_1
      try clear hcz8_2
      try clear hcz9_0
      try clear hcz9_1
      try clear hcz9_2
      try clear hfz13_0
      try clear hfz7_0
      try clear hfz8_0
      try clear hfz9_0
      try clear p2
      obtain ⟨x4_2, x50_2, rfl, rfl, HA, HK2, HI0, HK, HB⟩ := hrel
      cases gk with
      | zero => exact absurd HA.out (by simp [impl_isBox.l0])
      | succ k2 =>
       have H := HA.out
       clear HA
       simp only [impl_isBox.l0] at H
       by_cases c14 : x50_2 < (s0_1.length : Int)
       ·
        rw [if_pos c14] at H
        have c14b0 : decide (x50_2 < (s0_1.length : Int)) = true := decide_eq_true c14
        clear c14
        by_cases c15 : 0 ≤ x50_2
        ·
         rw [if_pos c15] at H
         have c15b0 : decide (0 ≤ x50_2) = true := decide_eq_true c15
         clear c15
         by_cases c16 : x50_2 < (s0_1.length : Int)
         ·
          rw [if_pos c16] at H
          have c16b0 : decide (x50_2 < (s0_1.length : Int)) = true := decide_eq_true c16
          clear c16
          replace H := Option.bind_eq_some_iff.mp H
          obtain ⟨t181, A170, H⟩ := H
          replace H : (if t181 = true then (if x50_2 < (s0_2.length : Int) then ((impl_inside.f (rd s0_2 x50_2) (wrap64 ((rd s0_1 x50_2) + 1)) ji12).bind fun t183 => (if t183 = true then (if x4_2 = true then (impl_isBox.l0 k2 ji12 true s0_1 (s0_1.length : Int) (wrap64 (x50_2 + 1)) s0_0 s0_1 s0_2) else (if (Int.tmod (rd s0_1 x50_2) 2) = 0 then (impl_isBox.l0 k2 ji12 ((Int.tmod (rd s0_2 x50_2) 2) != 0) s0_1 (s0_1.length : Int) (wrap64 (x50_2 + 1)) s0_0 s0_1 s0_2) else (impl_isBox.l0 k2 ji12 true s0_1 (s0_1.length : Int) (wrap64 (x50_2 + 1)) s0_0 s0_1 s0_2))) else (some (false, s0_0)))) else (none)) else (some (false, s0_0))) = some (r1, r2) := H
          have A17 := Aside0.mk A170
          clear A170
          by_cases c18 : t181 = true
          ·
           subst c18
           have H1 : (if x50_2 < (s0_2.length : Int) then ((impl_inside.f (rd s0_2 x50_2) (wrap64 ((rd s0_1 x50_2) + 1)) ji12).bind fun t183 => (if t183 = true then (if x4_2 = true then (impl_isBox.l0 k2 ji12 true s0_1 (s0_1.length : Int) (wrap64 (x50_2 + 1)) s0_0 s0_1 s0_2) else (if (Int.tmod (rd s0_1 x50_2) 2) = 0 then (impl_isBox.l0 k2 ji12 ((Int.tmod (rd s0_2 x50_2) 2) != 0) s0_1 (s0_1.length : Int) (wrap64 (x50_2 + 1)) s0_0 s0_1 s0_2) else (impl_isBox.l0 k2 ji12 true s0_1 (s0_1.length : Int) (wrap64 (x50_2 + 1)) s0_0 s0_1 s0_2))) else (some (false, s0_0)))) else (none)) = some (r1, r2) := by rw [if_pos rfl] at H; exact H
           clear H
           have H := H1
           clear H1
           by_cases c19 : x50_2 < (s0_2.length : Int)
           ·
            rw [if_pos c19] at H
            have c19b0 : decide (x50_2 < (s0_2.length : Int)) = true := decide_eq_true c19
            clear c19
            replace H := Option.bind_eq_some_iff.mp H
            obtain ⟨t183, A200, H⟩ := H
            replace H : (if t183 = true then (if x4_2 = true then (impl_isBox.l0 k2 ji12 true s0_1 (s0_1.length : Int) (wrap64 (x50_2 + 1)) s0_0 s0_1 s0_2) else (if (Int.tmod (rd s0_1 x50_2) 2) = 0 then (impl_isBox.l0 k2 ji12 ((Int.tmod (rd s0_2 x50_2) 2) != 0) s0_1 (s0_1.length : Int) (wrap64 (x50_2 + 1)) s0_0 s0_1 s0_2) else (impl_isBox.l0 k2 ji12 true s0_1 (s0_1.length : Int) (wrap64 (x50_2 + 1)) s0_0 s0_1 s0_2))) else (some (false, s0_0))) = some (r1, r2) := H
            have A20 := Aside0.mk A200
            clear A200
            by_cases c21 : t183 = true
            ·
             subst c21
             have H1 : (if x4_2 = true then (impl_isBox.l0 k2 ji12 true s0_1 (s0_1.length : Int) (wrap64 (x50_2 + 1)) s0_0 s0_1 s0_2) else (if (Int.tmod (rd s0_1 x50_2) 2) = 0 then (impl_isBox.l0 k2 ji12 ((Int.tmod (rd s0_2 x50_2) 2) != 0) s0_1 (s0_1.length : Int) (wrap64 (x50_2 + 1)) s0_0 s0_1 s0_2) else (impl_isBox.l0 k2 ji12 true s0_1 (s0_1.length : Int) (wrap64 (x50_2 + 1)) s0_0 s0_1 s0_2))) = some (r1, r2) := by rw [if_pos rfl] at H; exact H
             clear H
             have H := H1
             clear H1
             by_cases c22 : x4_2 = true
             ·
              subst c22
              have H1 : (impl_isBox.l0 k2 ji12 true s0_1 (s0_1.length : Int) (wrap64 (x50_2 + 1)) s0_0 s0_1 s0_2) = some (r1, r2) := by rw [if_pos rfl] at H; exact H
              clear H
              have H := H1
              clear H1
              have H' := Aside0.mk H
              clear H
              obtain ⟨ASz23_1, cSz23_1, ASz23_2, cSz23_2, HGz23, hgz23, HSz23_1, HSz23_2⟩ := HI0.out
              have hcz23_0 := cellS27_0 HGz23
              have hcz23_1 := cellS27_1 HGz23
              have hcz23_2 := cellS27_2 HGz23
              have hfz23_0 := blk_frozen HGz23 0
              clear HGz23 hgz23
              have p180 : 0 ≤ (x50_2 : Int) := of_decide_eq_true (by first | (with_reducible assumption) | assumption)
              have q180 : x50_2 < (s0_1.length : Int) := of_decide_eq_true (by first | (with_reducible assumption) | assumption)
              obtain ⟨ad180, e180, hx180_0⟩ := Kd.at_int HSz13_1 x50_2 p180 q180
              cases e180
              replace hx180_0 := pw_cell_below HB.out hx180_0
              replace p180 := eq_true p180
              replace q180 := eq_true q180
              go_wp2_with (first | (go_at_call 73; (with_reducible refine (impl_inside.calls (rd s0_1 x50_2) (wrap64 (-ji12)) ji12 true _ A17.out).mono ?_); rintro e w' ⟨rfl, ⟨nd, rfl⟩⟩; (try first | exact ⟨rfl, _, World.drewN_drewN _ _ _⟩ | exact ⟨rfl, _, Eq.trans (World.drewN_drewN _ _ _) (congrArg (World.drewN _) (Nat.add_assoc _ _ _))⟩); have p182 : 0 ≤ (x50_2 : Int) := of_decide_eq_true (by first | (with_reducible assumption) | assumption); have q182 : x50_2 < (s0_2.length : Int) := of_decide_eq_true (by first | (with_reducible assumption) | assumption); obtain ⟨ad182, e182, hx182_0⟩ := Kd.at_int HSz23_2 x50_2 p182 q182; cases e182; replace hx182_0 := pw_cell_below HB.out hx182_0; replace p182 := eq_true p182; replace q182 := eq_true q182) | (go_at_call 73; (with_reducible refine (impl_inside.calls (rd s0_2 x50_2) (wrap64 ((rd s0_1 x50_2) + 1)) ji12 true _ A20.out).mono ?_); rintro e w' ⟨rfl, ⟨nd, rfl⟩⟩; (try first | exact ⟨rfl, _, World.drewN_drewN _ _ _⟩ | exact ⟨rfl, _, Eq.trans (World.drewN_drewN _ _ _) (congrArg (World.drewN _) (Nat.add_assoc _ _ _))⟩)))
              repeat (go_quiet (first | (go_at_call 73; (with_reducible refine (impl_inside.calls (rd s0_1 x50_2) (wrap64 (-ji12)) ji12 true _ A17.out).mono ?_); rintro e w' ⟨rfl, ⟨nd, rfl⟩⟩; (try first | exact ⟨rfl, _, World.drewN_drewN _ _ _⟩ | exact ⟨rfl, _, Eq.trans (World.drewN_drewN _ _ _) (congrArg (World.drewN _) (Nat.add_assoc _ _ _))⟩); have p182 : 0 ≤ (x50_2 : Int) := of_decide_eq_true (by first | (with_reducible assumption) | assumption); have q182 : x50_2 < (s0_2.length : Int) := of_decide_eq_true (by first | (with_reducible assumption) | assumption); obtain ⟨ad182, e182, hx182_0⟩ := Kd.at_int HSz23_2 x50_2 p182 q182; cases e182; replace hx182_0 := pw_cell_below HB.out hx182_0; replace p182 := eq_true p182; replace q182 := eq_true q182) | (go_at_call 73; (with_reducible refine (impl_inside.calls (rd s0_2 x50_2) (wrap64 ((rd s0_1 x50_2) + 1)) ji12 true _ A20.out).mono ?_); rintro e w' ⟨rfl, ⟨nd, rfl⟩⟩; (try first | exact ⟨rfl, _, World.drewN_drewN _ _ _⟩ | exact ⟨rfl, _, Eq.trans (World.drewN_drewN _ _ _) (congrArg (World.drewN _) (Nat.add_assoc _ _ _))⟩))); try go_wp2_with (first | (go_at_call 73; (with_reducible refine (impl_inside.calls (rd s0_1 x50_2) (wrap64 (-ji12)) ji12 true _ A17.out).mono ?_); rintro e w' ⟨rfl, ⟨nd, rfl⟩⟩; (try first | exact ⟨rfl, _, World.drewN_drewN _ _ _⟩ | exact ⟨rfl, _, Eq.trans (World.drewN_drewN _ _ _) (congrArg (World.drewN _) (Nat.add_assoc _ _ _))⟩); have p182 : 0 ≤ (x50_2 : Int) := of_decide_eq_true (by first | (with_reducible assumption) | assumption); have q182 : x50_2 < (s0_2.length : Int) := of_decide_eq_true (by first | (with_reducible assumption) | assumption); obtain ⟨ad182, e182, hx182_0⟩ := Kd.at_int HSz23_2 x50_2 p182 q182; cases e182; replace hx182_0 := pw_cell_below HB.out hx182_0; replace p182 := eq_true p182; replace q182 := eq_true q182) | (go_at_call 73; (with_reducible refine (impl_inside.calls (rd s0_2 x50_2) (wrap64 ((rd s0_1 x50_2) + 1)) ji12 true _ A20.out).mono ?_); rintro e w' ⟨rfl, ⟨nd, rfl⟩⟩; (try first | exact ⟨rfl, _, World.drewN_drewN _ _ _⟩ | exact ⟨rfl, _, Eq.trans (World.drewN_drewN _ _ _) (congrArg (World.drewN _) (Nat.add_assoc _ _ _))⟩))))
              go_roundg k2
              case measure => have := HJ1.out; have := HK2.out; omega
              case rel => exact ⟨(true), (wrap64 (x50_2 + 1)), (by first | rfl | (simp; done) | (simp [*]; done)), (by first | rfl | (simp; done) | (simp [*]; done)), H', ⟨by have := HJ1.out; have := HK2.out; omega⟩, ⟨(z57_0 HI0)⟩, ⟨(z57_1 HK)⟩, ⟨(z57_2 HB)⟩⟩
             ·
              replace c22 := Bool.eq_false_iff.mpr c22
              subst c22
              have H1 : (if (Int.tmod (rd s0_1 x50_2) 2) = 0 then (impl_isBox.l0 k2 ji12 ((Int.tmod (rd s0_2 x50_2) 2) != 0) s0_1 (s0_1.length : Int) (wrap64 (x50_2 + 1)) s0_0 s0_1 s0_2) else (impl_isBox.l0 k2 ji12 true s0_1 (s0_1.length : Int) (wrap64 (x50_2 + 1)) s0_0 s0_1 s0_2)) = some (r1, r2) := by rw [if_neg (show ¬ (false = true) by decide)] at H; exact H
              clear H
              have H := H1
              clear H1
              by_cases c24 : (Int.tmod (rd s0_1 x50_2) 2) = 0
              ·
               rw [if_pos c24] at H
               have c24b0 : ((Int.tmod (rd s0_1 x50_2) 2) == 0) = true := beq_iff_eq.mpr c24
               have c24b1 : ((Int.tmod (rd s0_1 x50_2) 2) != 0) = false := bne_eq_false_iff_eq.mpr c24
               clear c24
               have H' := Aside0.mk H
               clear H
               obtain ⟨ASz25_1, cSz25_1, ASz25_2, cSz25_2, HGz25, hgz25, HSz25_1, HSz25_2⟩ := HI0.out
               have hcz25_0 := cellS27_0 HGz25
               have hcz25_1 := cellS27_1 HGz25
               have hcz25_2 := cellS27_2 HGz25
               have hfz25_0 := blk_frozen HGz25 0
               clear HGz25 hgz25
               have p180 : 0 ≤ (x50_2 : Int) := of_decide_eq_true (by first | (with_reducible assumption) | assumption)
               have q180 : x50_2 < (s0_1.length : Int) := of_decide_eq_true (by first | (with_reducible assumption) | assumption)
               obtain ⟨ad180, e180, hx180_0⟩ := Kd.at_int HSz13_1 x50_2 p180 q180
               cases e180
               replace hx180_0 := pw_cell_below HB.out hx180_0
               replace p180 := eq_true p180
               replace q180 := eq_true q180
               go_wp2_with (first | (go_at_call 73; (with_reducible refine (impl_inside.calls (rd s0_1 x50_2) (wrap64 (-ji12)) ji12 true _ A17.out).mono ?_); rintro e w' ⟨rfl, ⟨nd, rfl⟩⟩; (try first | exact ⟨rfl, _, World.drewN_drewN _ _ _⟩ | exact ⟨rfl, _, Eq.trans (World.drewN_drewN _ _ _) (congrArg (World.drewN _) (Nat.add_assoc _ _ _))⟩); have p182 : 0 ≤ (x50_2 : Int) := of_decide_eq_true (by first | (with_reducible assumption) | assumption); have q182 : x50_2 < (s0_2.length : Int) := of_decide_eq_true (by first | (with_reducible assumption) | assumption); obtain ⟨ad182, e182, hx182_0⟩ := Kd.at_int HSz25_2 x50_2 p182 q182; cases e182; replace hx182_0 := pw_cell_below HB.out hx182_0; replace p182 := eq_true p182; replace q182 := eq_true q182) | (go_at_call 73; (with_reducible refine (impl_inside.calls (rd s0_2 x50_2) (wrap64 ((rd s0_1 x50_2) + 1)) ji12 true _ A20.out).mono ?_); rintro e w' ⟨rfl, ⟨nd, rfl⟩⟩; (try first | exact ⟨rfl, _, World.drewN_drewN _ _ _⟩ | exact ⟨rfl, _, Eq.trans (World.drewN_drewN _ _ _) (congrArg (World.drewN _) (Nat.add_assoc _ _ _))⟩); have p184 : 0 ≤ (x50_2 : Int) := of_decide_eq_true (by first | (with_reducible assumption) | assumption); have q184 : x50_2 < (s0_2.length : Int) := of_decide_eq_true (by first | (with_reducible assumption) | assumption); obtain ⟨ad184, e184, hx184_0⟩ := Kd.at_int HSz25_2 x50_2 p184 q184; obtain rfl : ad182 = ad184 := (by injection e184); replace hx184_0 := pw_cell_below HB.out hx184_0; replace p184 := eq_true p184; replace q184 := eq_true q184))
               repeat (go_quiet (first | (go_at_call 73; (with_reducible refine (impl_inside.calls (rd s0_1 x50_2) (wrap64 (-ji12)) ji12 true _ A17.out).mono ?_); rintro e w' ⟨rfl, ⟨nd, rfl⟩⟩; (try first | exact ⟨rfl, _, World.drewN_drewN _ _ _⟩ | exact ⟨rfl, _, Eq.trans (World.drewN_drewN _ _ _) (congrArg (World.drewN _) (Nat.add_assoc _ _ _))⟩); have p182 : 0 ≤ (x50_2 : Int) := of_decide_eq_true (by first | (with_reducible assumption) | assumption); have q182 : x50_2 < (s0_2.length : Int) := of_decide_eq_true (by first | (with_reducible assumption) | assumption); obtain ⟨ad182, e182, hx182_0⟩ := Kd.at_int HSz25_2 x50_2 p182 q182; cases e182; replace hx182_0 := pw_cell_below HB.out hx182_0; replace p182 := eq_true p182; replace q182 := eq_true q182) | (go_at_call 73; (with_reducible refine (impl_inside.calls (rd s0_2 x50_2) (wrap64 ((rd s0_1 x50_2) + 1)) ji12 true _ A20.out).mono ?_); rintro e w' ⟨rfl, ⟨nd, rfl⟩⟩; (try first | exact ⟨rfl, _, World.drewN_drewN _ _ _⟩ | exact ⟨rfl, _, Eq.trans (World.drewN_drewN _ _ _) (congrArg (World.drewN _) (Nat.add_assoc _ _ _))⟩); have p184 : 0 ≤ (x50_2 : Int) := of_decide_eq_true (by first | (with_reducible assumption) | assumption); have q184 : x50_2 < (s0_2.length : Int) := of_decide_eq_true (by first | (with_reducible assumption) | assumption); obtain ⟨ad184, e184, hx184_0⟩ := Kd.at_int HSz25_2 x50_2 p184 q184; obtain rfl : ad182 = ad184 := (by injection e184); replace hx184_0 := pw_cell_below HB.out hx184_0; replace p184 := eq_true p184; replace q184 := eq_true q184)); try go_wp2_with (first | (go_at_call 73; (with_reducible refine (impl_inside.calls (rd s0_1 x50_2) (wrap64 (-ji12)) ji12 true _ A17.out).mono ?_); rintro e w' ⟨rfl, ⟨nd, rfl⟩⟩; (try first | exact ⟨rfl, _, World.drewN_drewN _ _ _⟩ | exact ⟨rfl, _, Eq.trans (World.drewN_drewN _ _ _) (congrArg (World.drewN _) (Nat.add_assoc _ _ _))⟩); have p182 : 0 ≤ (x50_2 : Int) := of_decide_eq_true (by first | (with_reducible assumption) | assumption); have q182 : x50_2 < (s0_2.length : Int) := of_decide_eq_true (by first | (with_reducible assumption) | assumption); obtain ⟨ad182, e182, hx182_0⟩ := Kd.at_int HSz25_2 x50_2 p182 q182; cases e182; replace hx182_0 := pw_cell_below HB.out hx182_0; replace p182 := eq_true p182; replace q182 := eq_true q182) | (go_at_call 73; (with_reducible refine (impl_inside.calls (rd s0_2 x50_2) (wrap64 ((rd s0_1 x50_2) + 1)) ji12 true _ A20.out).mono ?_); rintro e w' ⟨rfl, ⟨nd, rfl⟩⟩; (try first | exact ⟨rfl, _, World.drewN_drewN _ _ _⟩ | exact ⟨rfl, _, Eq.trans (World.drewN_drewN _ _ _) (congrArg (World.drewN _) (Nat.add_assoc _ _ _))⟩); have p184 : 0 ≤ (x50_2 : Int) := of_decide_eq_true (by first | (with_reducible assumption) | assumption); have q184 : x50_2 < (s0_2.length : Int) := of_decide_eq_true (by first | (with_reducible assumption) | assumption); obtain ⟨ad184, e184, hx184_0⟩ := Kd.at_int HSz25_2 x50_2 p184 q184; obtain rfl : ad182 = ad184 := (by injection e184); replace hx184_0 := pw_cell_below HB.out hx184_0; replace p184 := eq_true p184; replace q184 := eq_true q184)))
               go_roundg k2
               case measure => have := HJ1.out; have := HK2.out; omega
               case rel => exact ⟨(((Int.tmod (rd s0_2 x50_2) 2) != 0)), (wrap64 (x50_2 + 1)), (by first | rfl | (simp; done) | (simp [*]; done)), (by first | rfl | (simp; done) | (simp [*]; done)), H', ⟨by have := HJ1.out; have := HK2.out; omega⟩, ⟨(z57_0 HI0)⟩, ⟨(z57_1 HK)⟩, ⟨(z57_2 HB)⟩⟩
              ·
               rw [if_neg c24] at H
               have c24b0 : ((Int.tmod (rd s0_1 x50_2) 2) == 0) = false := beq_eq_false_iff_ne.mpr c24
               have c24b1 : ((Int.tmod (rd s0_1 x50_2) 2) != 0) = true := bne_iff_ne.mpr c24
               have H' := Aside0.mk H
               clear H
               obtain ⟨ASz26_1, cSz26_1, ASz26_2, cSz26_2, HGz26, hgz26, HSz26_1, HSz26_2⟩ := HI0.out
               have hcz26_0 := cellS27_0 HGz26
               have hcz26_1 := cellS27_1 HGz26
               have hcz26_2 := cellS27_2 HGz26
               have hfz26_0 := blk_frozen HGz26 0
               clear HGz26 hgz26
               have p180 : 0 ≤ (x50_2 : Int) := of_decide_eq_true (by first | (with_reducible assumption) | assumption)
               have q180 : x50_2 < (s0_1.length : Int) := of_decide_eq_true (by first | (with_reducible assumption) | assumption)
               obtain ⟨ad180, e180, hx180_0⟩ := Kd.at_int HSz13_1 x50_2 p180 q180
               cases e180
               replace hx180_0 := pw_cell_below HB.out hx180_0
               replace p180 := eq_true p180
               replace q180 := eq_true q180
               go_wp2_with (first | (go_at_call 73; (with_reducible refine (impl_inside.calls (rd s0_1 x50_2) (wrap64 (-ji12)) ji12 true _ A17.out).mono ?_); rintro e w' ⟨rfl, ⟨nd, rfl⟩⟩; (try first | exact ⟨rfl, _, World.drewN_drewN _ _ _⟩ | exact ⟨rfl, _, Eq.trans (World.drewN_drewN _ _ _) (congrArg (World.drewN _) (Nat.add_assoc _ _ _))⟩); have p182 : 0 ≤ (x50_2 : Int) := of_decide_eq_true (by first | (with_reducible assumption) | assumption); have q182 : x50_2 < (s0_2.length : Int) := of_decide_eq_true (by first | (with_reducible assumption) | assumption); obtain ⟨ad182, e182, hx182_0⟩ := Kd.at_int HSz26_2 x50_2 p182 q182; cases e182; replace hx182_0 := pw_cell_below HB.out hx182_0; replace p182 := eq_true p182; replace q182 := eq_true q182) | (go_at_call 73; (with_reducible refine (impl_inside.calls (rd s0_2 x50_2) (wrap64 ((rd s0_1 x50_2) + 1)) ji12 true _ A20.out).mono ?_); rintro e w' ⟨rfl, ⟨nd, rfl⟩⟩; (try first | exact ⟨rfl, _, World.drewN_drewN _ _ _⟩ | exact ⟨rfl, _, Eq.trans (World.drewN_drewN _ _ _) (congrArg (World.drewN _) (Nat.add_assoc _ _ _))⟩)))
               repeat (go_quiet (first | (go_at_call 73; (with_reducible refine (impl_inside.calls (rd s0_1 x50_2) (wrap64 (-ji12)) ji12 true _ A17.out).mono ?_); rintro e w' ⟨rfl, ⟨nd, rfl⟩⟩; (try first | exact ⟨rfl, _, World.drewN_drewN _ _ _⟩ | exact ⟨rfl, _, Eq.trans (World.drewN_drewN _ _ _) (congrArg (World.drewN _) (Nat.add_assoc _ _ _))⟩); have p182 : 0 ≤ (x50_2 : Int) := of_decide_eq_true (by first | (with_reducible assumption) | assumption); have q182 : x50_2 < (s0_2.length : Int) := of_decide_eq_true (by first | (with_reducible assumption) | assumption); obtain ⟨ad182, e182, hx182_0⟩ := Kd.at_int HSz26_2 x50_2 p182 q182; cases e182; replace hx182_0 := pw_cell_below HB.out hx182_0; replace p182 := eq_true p182; replace q182 := eq_true q182) | (go_at_call 73; (with_reducible refine (impl_inside.calls (rd s0_2 x50_2) (wrap64 ((rd s0_1 x50_2) + 1)) ji12 true _ A20.out).mono ?_); rintro e w' ⟨rfl, ⟨nd, rfl⟩⟩; (try first | exact ⟨rfl, _, World.drewN_drewN _ _ _⟩ | exact ⟨rfl, _, Eq.trans (World.drewN_drewN _ _ _) (congrArg (World.drewN _) (Nat.add_assoc _ _ _))⟩))); try go_wp2_with (first | (go_at_call 73; (with_reducible refine (impl_inside.calls (rd s0_1 x50_2) (wrap64 (-ji12)) ji12 true _ A17.out).mono ?_); rintro e w' ⟨rfl, ⟨nd, rfl⟩⟩; (try first | exact ⟨rfl, _, World.drewN_drewN _ _ _⟩ | exact ⟨rfl, _, Eq.trans (World.drewN_drewN _ _ _) (congrArg (World.drewN _) (Nat.add_assoc _ _ _))⟩); have p182 : 0 ≤ (x50_2 : Int) := of_decide_eq_true (by first | (with_reducible assumption) | assumption); have q182 : x50_2 < (s0_2.length : Int) := of_decide_eq_true (by first | (with_reducible assumption) | assumption); obtain ⟨ad182, e182, hx182_0⟩ := Kd.at_int HSz26_2 x50_2 p182 q182; cases e182; replace hx182_0 := pw_cell_below HB.out hx182_0; replace p182 := eq_true p182; replace q182 := eq_true q182) | (go_at_call 73; (with_reducible refine (impl_inside.calls (rd s0_2 x50_2) (wrap64 ((rd s0_1 x50_2) + 1)) ji12 true _ A20.out).mono ?_); rintro e w' ⟨rfl, ⟨nd, rfl⟩⟩; (try first | exact ⟨rfl, _, World.drewN_drewN _ _ _⟩ | exact ⟨rfl, _, Eq.trans (World.drewN_drewN _ _ _) (congrArg (World.drewN _) (Nat.add_assoc _ _ _))⟩))))
               go_roundg k2
               case measure => have := HJ1.out; have := HK2.out; omega
               case rel => exact ⟨(true), (wrap64 (x50_2 + 1)), (by first | rfl | (simp; done) | (simp [*]; done)), (by first | rfl | (simp; done) | (simp [*]; done)), H', ⟨by have := HJ1.out; have := HK2.out; omega⟩, ⟨(z57_0 HI0)⟩, ⟨(z57_1 HK)⟩, ⟨(z57_2 HB)⟩⟩
            ·
             replace c21 := Bool.eq_false_iff.mpr c21
             subst c21
             have H1 : (some (false, s0_0)) = some (r1, r2) := by rw [if_neg (show ¬ (false = true) by decide)] at H; exact H
             clear H
             have H := H1
             clear H1
             simp only [Option.some.injEq, Prod.mk.injEq] at H
             obtain ⟨rfl, rfl⟩ := H
             obtain ⟨ASz27_1, cSz27_1, ASz27_2, cSz27_2, HGz27, hgz27, HSz27_1, HSz27_2⟩ := HI0.out
             have hcz27_0 := cellS27_0 HGz27
             have hcz27_1 := cellS27_1 HGz27
             have hcz27_2 := cellS27_2 HGz27
             have hfz27_0 := blk_frozen HGz27 0
             clear HGz27 hgz27
             have p180 : 0 ≤ (x50_2 : Int) := of_decide_eq_true (by first | (with_reducible assumption) | assumption)
             have q180 : x50_2 < (s0_1.length : Int) := of_decide_eq_true (by first | (with_reducible assumption) | assumption)
             obtain ⟨ad180, e180, hx180_0⟩ := Kd.at_int HSz13_1 x50_2 p180 q180
             cases e180
             replace hx180_0 := pw_cell_below HB.out hx180_0
             replace p180 := eq_true p180
             replace q180 := eq_true q180
             go_wp2_with (first | (go_at_call 73; (with_reducible refine (impl_inside.calls (rd s0_1 x50_2) (wrap64 (-ji12)) ji12 true _ A17.out).mono ?_); rintro e w' ⟨rfl, ⟨nd, rfl⟩⟩; (try first | exact ⟨rfl, _, World.drewN_drewN _ _ _⟩ | exact ⟨rfl, _, Eq.trans (World.drewN_drewN _ _ _) (congrArg (World.drewN _) (Nat.add_assoc _ _ _))⟩); have p182 : 0 ≤ (x50_2 : Int) := of_decide_eq_true (by first | (with_reducible assumption) | assumption); have q182 : x50_2 < (s0_2.length : Int) := of_decide_eq_true (by first | (with_reducible assumption) | assumption); obtain ⟨ad182, e182, hx182_0⟩ := Kd.at_int HSz27_2 x50_2 p182 q182; cases e182; replace hx182_0 := pw_cell_below HB.out hx182_0; replace p182 := eq_true p182; replace q182 := eq_true q182) | (go_at_call 73; (with_reducible refine (impl_inside.calls (rd s0_2 x50_2) (wrap64 ((rd s0_1 x50_2) + 1)) ji12 false _ A20.out).mono ?_); rintro e w' ⟨rfl, ⟨nd, rfl⟩⟩; (try first | exact ⟨rfl, _, World.drewN_drewN _ _ _⟩ | exact ⟨rfl, _, Eq.trans (World.drewN_drewN _ _ _) (congrArg (World.drewN _) (Nat.add_assoc _ _ _))⟩)))
             repeat (go_quiet (first | (go_at_call 73; (with_reducible refine (impl_inside.calls (rd s0_1 x50_2) (wrap64 (-ji12)) ji12 true _ A17.out).mono ?_); rintro e w' ⟨rfl, ⟨nd, rfl⟩⟩; (try first | exact ⟨rfl, _, World.drewN_drewN _ _ _⟩ | exact ⟨rfl, _, Eq.trans (World.drewN_drewN _ _ _) (congrArg (World.drewN _) (Nat.add_assoc _ _ _))⟩); have p182 : 0 ≤ (x50_2 : Int) := of_decide_eq_true (by first | (with_reducible assumption) | assumption); have q182 : x50_2 < (s0_2.length : Int) := of_decide_eq_true (by first | (with_reducible assumption) | assumption); obtain ⟨ad182, e182, hx182_0⟩ := Kd.at_int HSz27_2 x50_2 p182 q182; cases e182; replace hx182_0 := pw_cell_below HB.out hx182_0; replace p182 := eq_true p182; replace q182 := eq_true q182) | (go_at_call 73; (with_reducible refine (impl_inside.calls (rd s0_2 x50_2) (wrap64 ((rd s0_1 x50_2) + 1)) ji12 false _ A20.out).mono ?_); rintro e w' ⟨rfl, ⟨nd, rfl⟩⟩; (try first | exact ⟨rfl, _, World.drewN_drewN _ _ _⟩ | exact ⟨rfl, _, Eq.trans (World.drewN_drewN _ _ _) (congrArg (World.drewN _) (Nat.add_assoc _ _ _))⟩))); try go_wp2_with (first | (go_at_call 73; (with_reducible refine (impl_inside.calls (rd s0_1 x50_2) (wrap64 (-ji12)) ji12 true _ A17.out).mono ?_); rintro e w' ⟨rfl, ⟨nd, rfl⟩⟩; (try first | exact ⟨rfl, _, World.drewN_drewN _ _ _⟩ | exact ⟨rfl, _, Eq.trans (World.drewN_drewN _ _ _) (congrArg (World.drewN _) (Nat.add_assoc _ _ _))⟩); have p182 : 0 ≤ (x50_2 : Int) := of_decide_eq_true (by first | (with_reducible assumption) | assumption); have q182 : x50_2 < (s0_2.length : Int) := of_decide_eq_true (by first | (with_reducible assumption) | assumption); obtain ⟨ad182, e182, hx182_0⟩ := Kd.at_int HSz27_2 x50_2 p182 q182; cases e182; replace hx182_0 := pw_cell_below HB.out hx182_0; replace p182 := eq_true p182; replace q182 := eq_true q182) | (go_at_call 73; (with_reducible refine (impl_inside.calls (rd s0_2 x50_2) (wrap64 ((rd s0_1 x50_2) + 1)) ji12 false _ A20.out).mono ?_); rintro e w' ⟨rfl, ⟨nd, rfl⟩⟩; (try first | exact ⟨rfl, _, World.drewN_drewN _ _ _⟩ | exact ⟨rfl, _, Eq.trans (World.drewN_drewN _ _ _) (congrArg (World.drewN _) (Nat.add_assoc _ _ _))⟩))))
             go_ret
             exact ⟨by first | rfl | (simp [errW_none, errW_some] <;> rfl) | (simp only [← hji12]; first | rfl | (simp [errW_none, errW_some] <;> rfl)) | (simp [*, errW_none, errW_some] <;> rfl), (z57_0 HI0), (z57_2 HB), (z57_1 HK)⟩
           ·
            rw [if_neg c19] at H
            exact absurd H (by simp)
          ·
           replace c18 := Bool.eq_false_iff.mpr c18
           subst c18
           have H1 : (some (false, s0_0)) = some (r1, r2) := by rw [if_neg (show ¬ (false = true) by decide)] at H; exact H
           clear H
           have H := H1
           clear H1
           simp only [Option.some.injEq, Prod.mk.injEq] at H
           obtain ⟨rfl, rfl⟩ := H
           obtain ⟨ASz28_1, cSz28_1, ASz28_2, cSz28_2, HGz28, hgz28, HSz28_1, HSz28_2⟩ := HI0.out
           have hcz28_0 := cellS27_0 HGz28
           have hcz28_1 := cellS27_1 HGz28
           have hcz28_2 := cellS27_2 HGz28
           have hfz28_0 := blk_frozen HGz28 0
           clear HGz28 hgz28
           have p180 : 0 ≤ (x50_2 : Int) := of_decide_eq_true (by first | (with_reducible assumption) | assumption)
           have q180 : x50_2 < (s0_1.length : Int) := of_decide_eq_true (by first | (with_reducible assumption) | assumption)
           obtain ⟨ad180, e180, hx180_0⟩ := Kd.at_int HSz13_1 x50_2 p180 q180
           cases e180
           replace hx180_0 := pw_cell_below HB.out hx180_0
           replace p180 := eq_true p180
           replace q180 := eq_true q180
           go_wp2_with (first | (go_at_call 73; (with_reducible refine (impl_inside.calls (rd s0_1 x50_2) (wrap64 (-ji12)) ji12 false _ A17.out).mono ?_); rintro e w' ⟨rfl, ⟨nd, rfl⟩⟩; (try first | exact ⟨rfl, _, World.drewN_drewN _ _ _⟩ | exact ⟨rfl, _, Eq.trans (World.drewN_drewN _ _ _) (congrArg (World.drewN _) (Nat.add_assoc _ _ _))⟩)))
           repeat (go_quiet (first | (go_at_call 73; (with_reducible refine (impl_inside.calls (rd s0_1 x50_2) (wrap64 (-ji12)) ji12 false _ A17.out).mono ?_); rintro e w' ⟨rfl, ⟨nd, rfl⟩⟩; (try first | exact ⟨rfl, _, World.drewN_drewN _ _ _⟩ | exact ⟨rfl, _, Eq.trans (World.drewN_drewN _ _ _) (congrArg (World.drewN _) (Nat.add_assoc _ _ _))⟩))); try go_wp2_with (first | (go_at_call 73; (with_reducible refine (impl_inside.calls (rd s0_1 x50_2) (wrap64 (-ji12)) ji12 false _ A17.out).mono ?_); rintro e w' ⟨rfl, ⟨nd, rfl⟩⟩; (try first | exact ⟨rfl, _, World.drewN_drewN _ _ _⟩ | exact ⟨rfl, _, Eq.trans (World.drewN_drewN _ _ _) (congrArg (World.drewN _) (Nat.add_assoc _ _ _))⟩))))
           go_ret
           exact ⟨by first | rfl | (simp [errW_none, errW_some] <;> rfl) | (simp only [← hji12]; first | rfl | (simp [errW_none, errW_some] <;> rfl)) | (simp [*, errW_none, errW_some] <;> rfl), (z57_0 HI0), (z57_2 HB), (z57_1 HK)⟩
         ·
          rw [if_neg c16] at H
          exact absurd H (by simp)
        ·
         rw [if_neg c15] at H
         exact absurd H (by simp)
       ·
        rw [if_neg c14] at H
        have c14b0 : decide (x50_2 < (s0_1.length : Int)) = false := decide_eq_false c14
        clear c14
        simp only [Option.some.injEq, Prod.mk.injEq] at H
        obtain ⟨rfl, rfl⟩ := H
        go_wp2
        repeat (go_quiet (fail); try go_wp2)
        go_ret
        exact ⟨by first | rfl | (simp [errW_none, errW_some] <;> rfl) | (simp only [← hji12]; first | rfl | (simp [errW_none, errW_some] <;> rfl)) | (simp [*, errW_none, errW_some] <;> rfl), (z57_0 HI0), (z57_2 HB), (z57_1 HK)⟩
    ·
     rw [if_neg c11] at H
     exact absurd H (by simp)
end Go.Proofs.Ytgaoniapddpaaaa.PD
