-- By wip/mk/drv.py
import Derived.Test.YtgaoniapddpaaaaQHalvOfPDx0
import Derived.Test.YtgaoniapddpaaaaQHalvOfPDx1
import Derived.Test.YtgaoniapddpaaaaQHalvOfPDx3
import Derived.Test.YtgaoniapddpaaaaQHalvOfPDx20
namespace Go.Proofs.Ytgaoniapddpaaaa.PD
open Go.RowKit Go.Proofs.YtgaoniapddpaaaaW.PrintWords Go.Proofs.YtgaoniapddpaaaaW.PrintLast Go.Proofs.YtgaoniapddpaaaaW.PrintMore
attribute [local go_sem] max2_int min2_int max_two min_two max_three min_three max_four min_four
set_option linter.unusedVariables false
set_option linter.unusedSimpArgs false
/-! ### impl_boxOf: function 77 -/
-- PROOF
/-- A box's block, its rows read. -/
def SBx (w0 W : World) (g : Nat) (f0 : Int) (f1 f2 : List Int) : Prop := ∃ (A1 : Option Addr) (c1 : Nat) (A2 : Option Addr) (c2 : Nat), W.heap[g]? = some (.cells #[.int .i64 f0, .slice A1 f1.length c1, .slice A2 f2.length c2] 27 (0, 0)) ∧ True ∧ Kd.C (Kd.int .i64) w0 A1 f1.length f1 ∧ Kd.C (Kd.int .i64) w0 A2 f2.length f2
theorem SBx.alloc {w0 W : World} {g : Nat} {f0 : Int} {f1 f2 : List Int} (h : SBx w0 W g f0 f1 f2) (o : Obj) : SBx w0 (W.alloc o) g f0 f1 f2 := by
  obtain ⟨A1, c1, A2, c2, hb, hg, hr1, hr2⟩ := h
  exact ⟨A1, c1, A2, c2, blk_alloc hb o, hg, hr1, hr2⟩
theorem SBx.drewN {w0 W : World} {g : Nat} {f0 : Int} {f1 f2 : List Int} (h : SBx w0 W g f0 f1 f2) (m : Nat) : SBx w0 (W.drewN m) g f0 f1 f2 := h
theorem SBx.drew {w0 W : World} {g : Nat} {f0 : Int} {f1 f2 : List Int} (h : SBx w0 W g f0 f1 f2) : SBx w0 W.drew g f0 f1 f2 := h
theorem z57r_0 {P Q : Prop} (h : Aside0 (Q)) (f : Q → P := by intro h_; repeat (first | (with_reducible first | exact h_ | apply SBx.alloc | apply SBx.drewN | apply SBx.drew) | exact h_)) : P := f h.out
theorem z57r_1 {w W0 W1 : World} {g : Nat} {row : Option Nat} (h : Aside0 (KeepBut w W0 g row)) (f : KeepBut w W0 g row → KeepBut w W1 g row := by intro h_; repeat (first | (with_reducible first | exact h_ | apply KeepBut.set_ | apply keep_drewN | apply keep_drew | apply keep_alloc) | exact h_)) : KeepBut w W1 g row := f h.out
theorem z57r_2 {w W0 W1 : World} {B : Nat} (h : Aside0 (Below B w W0)) (f : Below B w W0 → Below B w W1 := by intro h_; repeat (first | (with_reducible first | exact h_ | apply below_alloc | apply pw_below_drewN | apply below_drew1) | exact h_)) : Below B w W1 := f h.out
set_option maxHeartbeats 8000000 in
set_option maxRecDepth 100000 in
theorem impl_isBox.readsI (k : Nat) (g : Nat) (s0_0 : Int) (s0_1 : List Int) (s0_2 : List Int) (r1 : Bool) (r2 : Int) (w0 w : World) (hI : SBx w0 w g s0_0 s0_1 s0_2) (hB : Below w0.heap.size w0 w) (h : impl_isBox.f k s0_0 s0_1 s0_2 = some (r1, r2)) :
  Calls Try.prog 57 #[.pointer (some ⟨g, 0, none⟩)] w fun e w' => e = .returned (.bool r1) ∧ SBx w0 w' g r2 s0_1 s0_2 ∧ Below w0.heap.size w0 w' ∧ KeepBut w w' g none := by
 have HI0 := Aside0.mk hI
 have HK := Aside0.mk (KeepBut.refl w g none)
 have HL := Aside0.mk hB.size
 clear hI
 have HW0 := Aside0.mk hB.size
 have HB := Aside0.mk hB
 clear hB
 have H : ((impl_inside.f s0_0 0 8).bind fun t133 => (if t133 = true then ((impl_inside.f (s0_1.length : Int) 1 3).bind fun t134 => (if t134 = true then (impl_isBox.j0 k ((s0_2.length : Int) != (s0_1.length : Int)) s0_0 s0_1 s0_2) else (impl_isBox.j0 k true s0_0 s0_1 s0_2))) else (impl_isBox.j0 k true s0_0 s0_1 s0_2))) = some (r1, r2) := h
 clear h
 have HC2 := Aside0.mk H
 clear H
 go_enter Try.func57, Try.ntmps57
 go_upto_region 1 with (fail)
 repeat (go_quiet (fail); go_upto_region 1 with (fail))
 go_cut [34] (fun v34 wc => ∃ (kq : Nat) (x34_1 : Bool), v34 = .bool x34_1 ∧ Aside0 (impl_isBox.j0 kq x34_1 s0_0 s0_1 s0_2 = some (r1, r2)) ∧ Aside0 (kq ≤ k) ∧ Aside0 (SBx w0 wc g s0_0 s0_1 s0_2) ∧ Aside0 (KeepBut w wc g none) ∧ Aside0 (Below w0.heap.size w0 wc))
 case first =>
  have H := HC2.out
  clear HC2
  replace H := Option.bind_eq_some_iff.mp H
  obtain ⟨t133, A30, H⟩ := H
  replace H : (if t133 = true then ((impl_inside.f (s0_1.length : Int) 1 3).bind fun t134 => (if t134 = true then (impl_isBox.j0 k ((s0_2.length : Int) != (s0_1.length : Int)) s0_0 s0_1 s0_2) else (impl_isBox.j0 k true s0_0 s0_1 s0_2))) else (impl_isBox.j0 k true s0_0 s0_1 s0_2)) = some (r1, r2) := H
  have A3 := Aside0.mk A30
  clear A30
  by_cases c4 : t133 = true
  ·
   subst c4
   have H1 : ((impl_inside.f (s0_1.length : Int) 1 3).bind fun t134 => (if t134 = true then (impl_isBox.j0 k ((s0_2.length : Int) != (s0_1.length : Int)) s0_0 s0_1 s0_2) else (impl_isBox.j0 k true s0_0 s0_1 s0_2))) = some (r1, r2) := by rw [if_pos rfl] at H; exact H
   clear H
   have H := H1
   clear H1
   replace H := Option.bind_eq_some_iff.mp H
   obtain ⟨t134, A50, H⟩ := H
   replace H : (if t134 = true then (impl_isBox.j0 k ((s0_2.length : Int) != (s0_1.length : Int)) s0_0 s0_1 s0_2) else (impl_isBox.j0 k true s0_0 s0_1 s0_2)) = some (r1, r2) := H
   have A5 := Aside0.mk A50
   clear A50
   by_cases c6 : t134 = true
   ·
    subst c6
    have H1 : (impl_isBox.j0 k ((s0_2.length : Int) != (s0_1.length : Int)) s0_0 s0_1 s0_2) = some (r1, r2) := by rw [if_pos rfl] at H; exact H
    clear H
    have H := H1
    clear H1
    have H' := Aside0.mk H
    clear H
    obtain ⟨ASz7_1, cSz7_1, ASz7_2, cSz7_2, HGz7, hgz7, HSz7_1, HSz7_2⟩ := HI0.out
    have hcz7_0 := cellS27_0 HGz7
    have hcz7_1 := cellS27_1 HGz7
    have hcz7_2 := cellS27_2 HGz7
    have hfz7_0 := blk_frozen HGz7 0
    clear HGz7 hgz7
    go_wp2_with (first | (go_at_call 73; (with_reducible refine (impl_inside.calls s0_0 0 8 true _ A3.out).mono ?_); rintro e w' ⟨rfl, ⟨nd, rfl⟩⟩; (try first | exact ⟨rfl, _, World.drewN_drewN _ _ _⟩ | exact ⟨rfl, _, Eq.trans (World.drewN_drewN _ _ _) (congrArg (World.drewN _) (Nat.add_assoc _ _ _))⟩)) | (go_at_call 73; (with_reducible refine (impl_inside.calls (s0_1.length : Int) 1 3 true _ A5.out).mono ?_); rintro e w' ⟨rfl, ⟨nd, rfl⟩⟩; (try first | exact ⟨rfl, _, World.drewN_drewN _ _ _⟩ | exact ⟨rfl, _, Eq.trans (World.drewN_drewN _ _ _) (congrArg (World.drewN _) (Nat.add_assoc _ _ _))⟩)))
    repeat (go_quiet (first | (go_at_call 73; (with_reducible refine (impl_inside.calls s0_0 0 8 true _ A3.out).mono ?_); rintro e w' ⟨rfl, ⟨nd, rfl⟩⟩; (try first | exact ⟨rfl, _, World.drewN_drewN _ _ _⟩ | exact ⟨rfl, _, Eq.trans (World.drewN_drewN _ _ _) (congrArg (World.drewN _) (Nat.add_assoc _ _ _))⟩)) | (go_at_call 73; (with_reducible refine (impl_inside.calls (s0_1.length : Int) 1 3 true _ A5.out).mono ?_); rintro e w' ⟨rfl, ⟨nd, rfl⟩⟩; (try first | exact ⟨rfl, _, World.drewN_drewN _ _ _⟩ | exact ⟨rfl, _, Eq.trans (World.drewN_drewN _ _ _) (congrArg (World.drewN _) (Nat.add_assoc _ _ _))⟩))); try go_wp2_with (first | (go_at_call 73; (with_reducible refine (impl_inside.calls s0_0 0 8 true _ A3.out).mono ?_); rintro e w' ⟨rfl, ⟨nd, rfl⟩⟩; (try first | exact ⟨rfl, _, World.drewN_drewN _ _ _⟩ | exact ⟨rfl, _, Eq.trans (World.drewN_drewN _ _ _) (congrArg (World.drewN _) (Nat.add_assoc _ _ _))⟩)) | (go_at_call 73; (with_reducible refine (impl_inside.calls (s0_1.length : Int) 1 3 true _ A5.out).mono ?_); rintro e w' ⟨rfl, ⟨nd, rfl⟩⟩; (try first | exact ⟨rfl, _, World.drewN_drewN _ _ _⟩ | exact ⟨rfl, _, Eq.trans (World.drewN_drewN _ _ _) (congrArg (World.drewN _) (Nat.add_assoc _ _ _))⟩))))
    go_meet
    case rel => exact ⟨_, (((s0_2.length : Int) != (s0_1.length : Int))), (by first | rfl | (simp; done) | (simp [*]; done)), H', ⟨by first | omega | exact Nat.le_refl _⟩, ⟨(z57r_0 HI0)⟩, ⟨(z57r_1 HK)⟩, ⟨(z57r_2 HB)⟩⟩
   ·
    replace c6 := Bool.eq_false_iff.mpr c6
    subst c6
    have H1 : (impl_isBox.j0 k true s0_0 s0_1 s0_2) = some (r1, r2) := by rw [if_neg (show ¬ (false = true) by decide)] at H; exact H
    clear H
    have H := H1
    clear H1
    have H' := Aside0.mk H
    clear H
    obtain ⟨ASz8_1, cSz8_1, ASz8_2, cSz8_2, HGz8, hgz8, HSz8_1, HSz8_2⟩ := HI0.out
    have hcz8_0 := cellS27_0 HGz8
    have hcz8_1 := cellS27_1 HGz8
    have hcz8_2 := cellS27_2 HGz8
    have hfz8_0 := blk_frozen HGz8 0
    clear HGz8 hgz8
    go_wp2_with (first | (go_at_call 73; (with_reducible refine (impl_inside.calls s0_0 0 8 true _ A3.out).mono ?_); rintro e w' ⟨rfl, ⟨nd, rfl⟩⟩; (try first | exact ⟨rfl, _, World.drewN_drewN _ _ _⟩ | exact ⟨rfl, _, Eq.trans (World.drewN_drewN _ _ _) (congrArg (World.drewN _) (Nat.add_assoc _ _ _))⟩)) | (go_at_call 73; (with_reducible refine (impl_inside.calls (s0_1.length : Int) 1 3 false _ A5.out).mono ?_); rintro e w' ⟨rfl, ⟨nd, rfl⟩⟩; (try first | exact ⟨rfl, _, World.drewN_drewN _ _ _⟩ | exact ⟨rfl, _, Eq.trans (World.drewN_drewN _ _ _) (congrArg (World.drewN _) (Nat.add_assoc _ _ _))⟩)))
    repeat (go_quiet (first | (go_at_call 73; (with_reducible refine (impl_inside.calls s0_0 0 8 true _ A3.out).mono ?_); rintro e w' ⟨rfl, ⟨nd, rfl⟩⟩; (try first | exact ⟨rfl, _, World.drewN_drewN _ _ _⟩ | exact ⟨rfl, _, Eq.trans (World.drewN_drewN _ _ _) (congrArg (World.drewN _) (Nat.add_assoc _ _ _))⟩)) | (go_at_call 73; (with_reducible refine (impl_inside.calls (s0_1.length : Int) 1 3 false _ A5.out).mono ?_); rintro e w' ⟨rfl, ⟨nd, rfl⟩⟩; (try first | exact ⟨rfl, _, World.drewN_drewN _ _ _⟩ | exact ⟨rfl, _, Eq.trans (World.drewN_drewN _ _ _) (congrArg (World.drewN _) (Nat.add_assoc _ _ _))⟩))); try go_wp2_with (first | (go_at_call 73; (with_reducible refine (impl_inside.calls s0_0 0 8 true _ A3.out).mono ?_); rintro e w' ⟨rfl, ⟨nd, rfl⟩⟩; (try first | exact ⟨rfl, _, World.drewN_drewN _ _ _⟩ | exact ⟨rfl, _, Eq.trans (World.drewN_drewN _ _ _) (congrArg (World.drewN _) (Nat.add_assoc _ _ _))⟩)) | (go_at_call 73; (with_reducible refine (impl_inside.calls (s0_1.length : Int) 1 3 false _ A5.out).mono ?_); rintro e w' ⟨rfl, ⟨nd, rfl⟩⟩; (try first | exact ⟨rfl, _, World.drewN_drewN _ _ _⟩ | exact ⟨rfl, _, Eq.trans (World.drewN_drewN _ _ _) (congrArg (World.drewN _) (Nat.add_assoc _ _ _))⟩))))
    go_meet
    case rel => exact ⟨_, (true), (by first | rfl | (simp; done) | (simp [*]; done)), H', ⟨by first | omega | exact Nat.le_refl _⟩, ⟨(z57r_0 HI0)⟩, ⟨(z57r_1 HK)⟩, ⟨(z57r_2 HB)⟩⟩
  ·
   replace c4 := Bool.eq_false_iff.mpr c4
   subst c4
   have H1 : (impl_isBox.j0 k true s0_0 s0_1 s0_2) = some (r1, r2) := by rw [if_neg (show ¬ (false = true) by decide)] at H; exact H
   clear H
   have H := H1
   clear H1
   have H' := Aside0.mk H
   clear H
   obtain ⟨ASz9_1, cSz9_1, ASz9_2, cSz9_2, HGz9, hgz9, HSz9_1, HSz9_2⟩ := HI0.out
   have hcz9_0 := cellS27_0 HGz9
   have hcz9_1 := cellS27_1 HGz9
   have hcz9_2 := cellS27_2 HGz9
   have hfz9_0 := blk_frozen HGz9 0
   clear HGz9 hgz9
   go_wp2_with (first | (go_at_call 73; (with_reducible refine (impl_inside.calls s0_0 0 8 false _ A3.out).mono ?_); rintro e w' ⟨rfl, ⟨nd, rfl⟩⟩; (try first | exact ⟨rfl, _, World.drewN_drewN _ _ _⟩ | exact ⟨rfl, _, Eq.trans (World.drewN_drewN _ _ _) (congrArg (World.drewN _) (Nat.add_assoc _ _ _))⟩)))
   repeat (go_quiet (first | (go_at_call 73; (with_reducible refine (impl_inside.calls s0_0 0 8 false _ A3.out).mono ?_); rintro e w' ⟨rfl, ⟨nd, rfl⟩⟩; (try first | exact ⟨rfl, _, World.drewN_drewN _ _ _⟩ | exact ⟨rfl, _, Eq.trans (World.drewN_drewN _ _ _) (congrArg (World.drewN _) (Nat.add_assoc _ _ _))⟩))); try go_wp2_with (first | (go_at_call 73; (with_reducible refine (impl_inside.calls s0_0 0 8 false _ A3.out).mono ?_); rintro e w' ⟨rfl, ⟨nd, rfl⟩⟩; (try first | exact ⟨rfl, _, World.drewN_drewN _ _ _⟩ | exact ⟨rfl, _, Eq.trans (World.drewN_drewN _ _ _) (congrArg (World.drewN _) (Nat.add_assoc _ _ _))⟩))))
   go_meet
   case rel => exact ⟨_, (true), (by first | rfl | (simp; done) | (simp [*]; done)), H', ⟨by first | omega | exact Nat.le_refl _⟩, ⟨(z57r_0 HI0)⟩, ⟨(z57r_1 HK)⟩, ⟨(z57r_2 HB)⟩⟩
 case rest =>
  clear HC2
  try clear p2
  try clear c4
  try clear c5
  try clear c6
  try clear hcz7_0
  try clear hcz7_1
  try clear hcz7_2
  try clear hcz8_0
  try clear hcz8_1
  try clear hcz8_2
  try clear hcz9_0
  try clear hcz9_1
  try clear hcz9_2
  try clear hfz7_0
  try clear hfz8_0
  try clear hfz9_0
  obtain ⟨kq, x34_1, rfl, HA, HJ1, HI0, HK, HB⟩ := hcut
  cases kq with
  | zero => exact absurd HA.out (by simp [impl_isBox.j0])
  | succ kj1 =>
   have H := HA.out
   clear HA
   simp only [impl_isBox.j0] at H
   by_cases c10 : x34_1 = true
   ·
    subst c10
    have H1 : (some (false, s0_0)) = some (r1, r2) := by rw [if_pos rfl] at H; exact H
    clear H
    have H := H1
    clear H1
    simp only [Option.some.injEq, Prod.mk.injEq] at H
    obtain ⟨rfl, rfl⟩ := H
    go_wp2
    repeat (go_quiet (fail); try go_wp2)
    go_ret
    exact ⟨by first | rfl | (simp [errW_none, errW_some] <;> rfl) | (simp [*, errW_none, errW_some] <;> rfl), (z57r_0 HI0), (z57r_2 HB), (z57r_1 HK)⟩
   ·
    replace c10 := Bool.eq_false_iff.mpr c10
    subst c10
    have H1 : (if 0 ≤ s0_0 then (impl_isBox.l0 kj1 (shl .i64 8 s0_0) (s0_0 == 0) s0_1 (s0_1.length : Int) 0 s0_0 s0_1 s0_2) else (none)) = some (r1, r2) := by rw [if_neg (show ¬ (false = true) by decide)] at H; exact H
    clear H
    have H := H1
    clear H1
    by_cases c11 : 0 ≤ s0_0
    ·
     rw [if_pos c11] at H
     have c11b0 := eq_true c11
     have c11b1 : decide (0 ≤ s0_0) = true := decide_eq_true c11
     clear c11
     obtain ⟨ji12, hji12⟩ : ∃ j_ : Int, (shl .i64 8 s0_0) = j_ := ⟨_, rfl⟩
     replace H : (impl_isBox.l0 kj1 ji12 (s0_0 == 0) s0_1 (s0_1.length : Int) 0 s0_0 s0_1 s0_2) = some (r1, r2) := by first | (rw [hji12] at H; exact H) | (simp only [hji12] at H ⊢; exact H)
     have hji12_ : (IntKind.i64.wrap (8 * 2 ^ min s0_0.toNat 64)) = ji12 := hji12
     have hji12z : s0_0 ≤ 64 → (IntKind.i64.wrap (8 * 2 ^ s0_0.toNat)) = ji12 := shl_small hji12
     have hji12y : (wrap64 (8 * 2 ^ min s0_0.toNat 64)) = ji12 := (i64_w _).symm.trans hji12_
     have hji12x : s0_0 ≤ 64 → (wrap64 (8 * 2 ^ s0_0.toNat)) = ji12 := fun h_ => (i64_w _).symm.trans (hji12z h_)
     have H' := Aside0.mk H
     clear H
     obtain ⟨ASz13_1, cSz13_1, ASz13_2, cSz13_2, HGz13, hgz13, HSz13_1, HSz13_2⟩ := HI0.out
     have hcz13_0 := cellS27_0 HGz13
     have hcz13_1 := cellS27_1 HGz13
     have hcz13_2 := cellS27_2 HGz13
     have hfz13_0 := blk_frozen HGz13 0
     clear HGz13 hgz13
     go_wp2
     repeat (go_quiet (fail); try go_wp2)
     go_loopg [4, 50] kj1 (fun kq v4 v50 w' => ∃ (x4_2 : Bool) (x50_2 : Int), v4 = .bool x4_2 ∧ v50 = .int .i64 x50_2 ∧ Aside0 (impl_isBox.l0 kq ji12 x4_2 s0_1 (s0_1.length : Int) x50_2 s0_0 s0_1 s0_2 = some (r1, r2)) ∧ Aside0 (kq ≤ kj1) ∧ Aside0 (SBx w0 w' g s0_0 s0_1 s0_2) ∧ Aside0 (KeepBut w w' g none) ∧ Aside0 (Below w0.heap.size w0 w'))
     case atStart => exact ⟨((s0_0 == 0)), (0), (by first | rfl | (simp; done) | (simp [*]; done)), (by first | rfl | (simp; done) | (simp [*]; done)), H', ⟨Nat.le_refl _⟩, ⟨(z57r_0 HI0)⟩, ⟨(z57r_1 HK)⟩, ⟨(z57r_2 HB)⟩⟩
     case round =>
      clear H'
      try clear c1
      try clear p2
      try clear c4
      try clear c5
      try clear c6
      try clear p6
      try clear c10
      try clear c11
      try clear c11b0
      try clear c11b1
      try clear hcz13_0
      try clear hcz13_1
      try clear hcz13_2
      try clear hcz7_0
      try clear hcz7_1
      try clear hcz7_2
      try clear hcz8_0
      try clear hcz8_1
      try clear hcz8_2
      try clear hcz9_0
      try clear hcz9_1
      try clear hcz9_2
      try clear hfz13_0
      try clear hfz7_0
      try clear hfz8_0
      try clear hfz9_0
      try clear p2
      obtain ⟨x4_2, x50_2, rfl, rfl, HA, HK2, HI0, HK, HB⟩ := hrel
      cases gk with
      | zero => exact absurd HA.out (by simp [impl_isBox.l0])
      | succ k2 =>
       have H := HA.out
       clear HA
       simp only [impl_isBox.l0] at H
       by_cases c14 : x50_2 < (s0_1.length : Int)
       ·
        rw [if_pos c14] at H
        have c14b0 : decide (x50_2 < (s0_1.length : Int)) = true := decide_eq_true c14
        clear c14
        by_cases c15 : 0 ≤ x50_2
        ·
         rw [if_pos c15] at H
         have c15b0 : decide (0 ≤ x50_2) = true := decide_eq_true c15
         clear c15
         by_cases c16 : x50_2 < (s0_1.length : Int)
         ·
          rw [if_pos c16] at H
          have c16b0 : decide (x50_2 < (s0_1.length : Int)) = true := decide_eq_true c16
          clear c16
          replace H := Option.bind_eq_some_iff.mp H
          obtain ⟨t136, A170, H⟩ := H
          replace H : (if t136 = true then (if x50_2 < (s0_2.length : Int) then ((impl_inside.f (rd s0_2 x50_2) (wrap64 ((rd s0_1 x50_2) + 1)) ji12).bind fun t138 => (if t138 = true then (if x4_2 = true then (impl_isBox.l0 k2 ji12 true s0_1 (s0_1.length : Int) (wrap64 (x50_2 + 1)) s0_0 s0_1 s0_2) else (if (Int.tmod (rd s0_1 x50_2) 2) = 0 then (impl_isBox.l0 k2 ji12 ((Int.tmod (rd s0_2 x50_2) 2) != 0) s0_1 (s0_1.length : Int) (wrap64 (x50_2 + 1)) s0_0 s0_1 s0_2) else (impl_isBox.l0 k2 ji12 true s0_1 (s0_1.length : Int) (wrap64 (x50_2 + 1)) s0_0 s0_1 s0_2))) else (some (false, s0_0)))) else (none)) else (some (false, s0_0))) = some (r1, r2) := H
          have A17 := Aside0.mk A170
          clear A170
          by_cases c18 : t136 = true
          ·
           subst c18
           have H1 : (if x50_2 < (s0_2.length : Int) then ((impl_inside.f (rd s0_2 x50_2) (wrap64 ((rd s0_1 x50_2) + 1)) ji12).bind fun t138 => (if t138 = true then (if x4_2 = true then (impl_isBox.l0 k2 ji12 true s0_1 (s0_1.length : Int) (wrap64 (x50_2 + 1)) s0_0 s0_1 s0_2) else (if (Int.tmod (rd s0_1 x50_2) 2) = 0 then (impl_isBox.l0 k2 ji12 ((Int.tmod (rd s0_2 x50_2) 2) != 0) s0_1 (s0_1.length : Int) (wrap64 (x50_2 + 1)) s0_0 s0_1 s0_2) else (impl_isBox.l0 k2 ji12 true s0_1 (s0_1.length : Int) (wrap64 (x50_2 + 1)) s0_0 s0_1 s0_2))) else (some (false, s0_0)))) else (none)) = some (r1, r2) := by rw [if_pos rfl] at H; exact H
           clear H
           have H := H1
           clear H1
           by_cases c19 : x50_2 < (s0_2.length : Int)
           ·
            rw [if_pos c19] at H
            have c19b0 : decide (x50_2 < (s0_2.length : Int)) = true := decide_eq_true c19
            clear c19
            replace H := Option.bind_eq_some_iff.mp H
            obtain ⟨t138, A200, H⟩ := H
            replace H : (if t138 = true then (if x4_2 = true then (impl_isBox.l0 k2 ji12 true s0_1 (s0_1.length : Int) (wrap64 (x50_2 + 1)) s0_0 s0_1 s0_2) else (if (Int.tmod (rd s0_1 x50_2) 2) = 0 then (impl_isBox.l0 k2 ji12 ((Int.tmod (rd s0_2 x50_2) 2) != 0) s0_1 (s0_1.length : Int) (wrap64 (x50_2 + 1)) s0_0 s0_1 s0_2) else (impl_isBox.l0 k2 ji12 true s0_1 (s0_1.length : Int) (wrap64 (x50_2 + 1)) s0_0 s0_1 s0_2))) else (some (false, s0_0))) = some (r1, r2) := H
            have A20 := Aside0.mk A200
            clear A200
            by_cases c21 : t138 = true
            ·
             subst c21
             have H1 : (if x4_2 = true then (impl_isBox.l0 k2 ji12 true s0_1 (s0_1.length : Int) (wrap64 (x50_2 + 1)) s0_0 s0_1 s0_2) else (if (Int.tmod (rd s0_1 x50_2) 2) = 0 then (impl_isBox.l0 k2 ji12 ((Int.tmod (rd s0_2 x50_2) 2) != 0) s0_1 (s0_1.length : Int) (wrap64 (x50_2 + 1)) s0_0 s0_1 s0_2) else (impl_isBox.l0 k2 ji12 true s0_1 (s0_1.length : Int) (wrap64 (x50_2 + 1)) s0_0 s0_1 s0_2))) = some (r1, r2) := by rw [if_pos rfl] at H; exact H
             clear H
             have H := H1
             clear H1
             by_cases c22 : x4_2 = true
             ·
              subst c22
              have H1 : (impl_isBox.l0 k2 ji12 true s0_1 (s0_1.length : Int) (wrap64 (x50_2 + 1)) s0_0 s0_1 s0_2) = some (r1, r2) := by rw [if_pos rfl] at H; exact H
              clear H
              have H := H1
              clear H1
              have H' := Aside0.mk H
              clear H
              obtain ⟨ASz23_1, cSz23_1, ASz23_2, cSz23_2, HGz23, hgz23, HSz23_1, HSz23_2⟩ := HI0.out
              have hcz23_0 := cellS27_0 HGz23
              have hcz23_1 := cellS27_1 HGz23
              have hcz23_2 := cellS27_2 HGz23
              have hfz23_0 := blk_frozen HGz23 0
              clear HGz23 hgz23
              have p135 : 0 ≤ (x50_2 : Int) := of_decide_eq_true (by first | (with_reducible assumption) | assumption)
              have q135 : x50_2 < (s0_1.length : Int) := of_decide_eq_true (by first | (with_reducible assumption) | assumption)
              obtain ⟨ad135, e135, hx135_0⟩ := Kd.at_int HSz13_1 x50_2 p135 q135
              cases e135
              replace hx135_0 := pw_cell_below HB.out hx135_0
              replace p135 := eq_true p135
              replace q135 := eq_true q135
              go_wp2_with (first | (go_at_call 73; (with_reducible refine (impl_inside.calls (rd s0_1 x50_2) (wrap64 (-ji12)) ji12 true _ A17.out).mono ?_); rintro e w' ⟨rfl, ⟨nd, rfl⟩⟩; (try first | exact ⟨rfl, _, World.drewN_drewN _ _ _⟩ | exact ⟨rfl, _, Eq.trans (World.drewN_drewN _ _ _) (congrArg (World.drewN _) (Nat.add_assoc _ _ _))⟩); have p137 : 0 ≤ (x50_2 : Int) := of_decide_eq_true (by first | (with_reducible assumption) | assumption); have q137 : x50_2 < (s0_2.length : Int) := of_decide_eq_true (by first | (with_reducible assumption) | assumption); obtain ⟨ad137, e137, hx137_0⟩ := Kd.at_int HSz23_2 x50_2 p137 q137; cases e137; replace hx137_0 := pw_cell_below HB.out hx137_0; replace p137 := eq_true p137; replace q137 := eq_true q137) | (go_at_call 73; (with_reducible refine (impl_inside.calls (rd s0_2 x50_2) (wrap64 ((rd s0_1 x50_2) + 1)) ji12 true _ A20.out).mono ?_); rintro e w' ⟨rfl, ⟨nd, rfl⟩⟩; (try first | exact ⟨rfl, _, World.drewN_drewN _ _ _⟩ | exact ⟨rfl, _, Eq.trans (World.drewN_drewN _ _ _) (congrArg (World.drewN _) (Nat.add_assoc _ _ _))⟩)))
              repeat (go_quiet (first | (go_at_call 73; (with_reducible refine (impl_inside.calls (rd s0_1 x50_2) (wrap64 (-ji12)) ji12 true _ A17.out).mono ?_); rintro e w' ⟨rfl, ⟨nd, rfl⟩⟩; (try first | exact ⟨rfl, _, World.drewN_drewN _ _ _⟩ | exact ⟨rfl, _, Eq.trans (World.drewN_drewN _ _ _) (congrArg (World.drewN _) (Nat.add_assoc _ _ _))⟩); have p137 : 0 ≤ (x50_2 : Int) := of_decide_eq_true (by first | (with_reducible assumption) | assumption); have q137 : x50_2 < (s0_2.length : Int) := of_decide_eq_true (by first | (with_reducible assumption) | assumption); obtain ⟨ad137, e137, hx137_0⟩ := Kd.at_int HSz23_2 x50_2 p137 q137; cases e137; replace hx137_0 := pw_cell_below HB.out hx137_0; replace p137 := eq_true p137; replace q137 := eq_true q137) | (go_at_call 73; (with_reducible refine (impl_inside.calls (rd s0_2 x50_2) (wrap64 ((rd s0_1 x50_2) + 1)) ji12 true _ A20.out).mono ?_); rintro e w' ⟨rfl, ⟨nd, rfl⟩⟩; (try first | exact ⟨rfl, _, World.drewN_drewN _ _ _⟩ | exact ⟨rfl, _, Eq.trans (World.drewN_drewN _ _ _) (congrArg (World.drewN _) (Nat.add_assoc _ _ _))⟩))); try go_wp2_with (first | (go_at_call 73; (with_reducible refine (impl_inside.calls (rd s0_1 x50_2) (wrap64 (-ji12)) ji12 true _ A17.out).mono ?_); rintro e w' ⟨rfl, ⟨nd, rfl⟩⟩; (try first | exact ⟨rfl, _, World.drewN_drewN _ _ _⟩ | exact ⟨rfl, _, Eq.trans (World.drewN_drewN _ _ _) (congrArg (World.drewN _) (Nat.add_assoc _ _ _))⟩); have p137 : 0 ≤ (x50_2 : Int) := of_decide_eq_true (by first | (with_reducible assumption) | assumption); have q137 : x50_2 < (s0_2.length : Int) := of_decide_eq_true (by first | (with_reducible assumption) | assumption); obtain ⟨ad137, e137, hx137_0⟩ := Kd.at_int HSz23_2 x50_2 p137 q137; cases e137; replace hx137_0 := pw_cell_below HB.out hx137_0; replace p137 := eq_true p137; replace q137 := eq_true q137) | (go_at_call 73; (with_reducible refine (impl_inside.calls (rd s0_2 x50_2) (wrap64 ((rd s0_1 x50_2) + 1)) ji12 true _ A20.out).mono ?_); rintro e w' ⟨rfl, ⟨nd, rfl⟩⟩; (try first | exact ⟨rfl, _, World.drewN_drewN _ _ _⟩ | exact ⟨rfl, _, Eq.trans (World.drewN_drewN _ _ _) (congrArg (World.drewN _) (Nat.add_assoc _ _ _))⟩))))
              go_roundg k2
              case measure => have := HJ1.out; have := HK2.out; omega
              case rel => exact ⟨(true), (wrap64 (x50_2 + 1)), (by first | rfl | (simp; done) | (simp [*]; done)), (by first | rfl | (simp; done) | (simp [*]; done)), H', ⟨by have := HJ1.out; have := HK2.out; omega⟩, ⟨(z57r_0 HI0)⟩, ⟨(z57r_1 HK)⟩, ⟨(z57r_2 HB)⟩⟩
             ·
              replace c22 := Bool.eq_false_iff.mpr c22
              subst c22
              have H1 : (if (Int.tmod (rd s0_1 x50_2) 2) = 0 then (impl_isBox.l0 k2 ji12 ((Int.tmod (rd s0_2 x50_2) 2) != 0) s0_1 (s0_1.length : Int) (wrap64 (x50_2 + 1)) s0_0 s0_1 s0_2) else (impl_isBox.l0 k2 ji12 true s0_1 (s0_1.length : Int) (wrap64 (x50_2 + 1)) s0_0 s0_1 s0_2)) = some (r1, r2) := by rw [if_neg (show ¬ (false = true) by decide)] at H; exact H
              clear H
              have H := H1
              clear H1
              by_cases c24 : (Int.tmod (rd s0_1 x50_2) 2) = 0
              ·
               rw [if_pos c24] at H
               have c24b0 : ((Int.tmod (rd s0_1 x50_2) 2) == 0) = true := beq_iff_eq.mpr c24
               have c24b1 : ((Int.tmod (rd s0_1 x50_2) 2) != 0) = false := bne_eq_false_iff_eq.mpr c24
               clear c24
               have H' := Aside0.mk H
               clear H
               obtain ⟨ASz25_1, cSz25_1, ASz25_2, cSz25_2, HGz25, hgz25, HSz25_1, HSz25_2⟩ := HI0.out
               have hcz25_0 := cellS27_0 HGz25
               have hcz25_1 := cellS27_1 HGz25
               have hcz25_2 := cellS27_2 HGz25
               have hfz25_0 := blk_frozen HGz25 0
               clear HGz25 hgz25
               have p135 : 0 ≤ (x50_2 : Int) := of_decide_eq_true (by first | (with_reducible assumption) | assumption)
               have q135 : x50_2 < (s0_1.length : Int) := of_decide_eq_true (by first | (with_reducible assumption) | assumption)
               obtain ⟨ad135, e135, hx135_0⟩ := Kd.at_int HSz13_1 x50_2 p135 q135
               cases e135
               replace hx135_0 := pw_cell_below HB.out hx135_0
               replace p135 := eq_true p135
               replace q135 := eq_true q135
               go_wp2_with (first | (go_at_call 73; (with_reducible refine (impl_inside.calls (rd s0_1 x50_2) (wrap64 (-ji12)) ji12 true _ A17.out).mono ?_); rintro e w' ⟨rfl, ⟨nd, rfl⟩⟩; (try first | exact ⟨rfl, _, World.drewN_drewN _ _ _⟩ | exact ⟨rfl, _, Eq.trans (World.drewN_drewN _ _ _) (congrArg (World.drewN _) (Nat.add_assoc _ _ _))⟩); have p137 : 0 ≤ (x50_2 : Int) := of_decide_eq_true (by first | (with_reducible assumption) | assumption); have q137 : x50_2 < (s0_2.length : Int) := of_decide_eq_true (by first | (with_reducible assumption) | assumption); obtain ⟨ad137, e137, hx137_0⟩ := Kd.at_int HSz25_2 x50_2 p137 q137; cases e137; replace hx137_0 := pw_cell_below HB.out hx137_0; replace p137 := eq_true p137; replace q137 := eq_true q137) | (go_at_call 73; (with_reducible refine (impl_inside.calls (rd s0_2 x50_2) (wrap64 ((rd s0_1 x50_2) + 1)) ji12 true _ A20.out).mono ?_); rintro e w' ⟨rfl, ⟨nd, rfl⟩⟩; (try first | exact ⟨rfl, _, World.drewN_drewN _ _ _⟩ | exact ⟨rfl, _, Eq.trans (World.drewN_drewN _ _ _) (congrArg (World.drewN _) (Nat.add_assoc _ _ _))⟩); have p139 : 0 ≤ (x50_2 : Int) := of_decide_eq_true (by first | (with_reducible assumption) | assumption); have q139 : x50_2 < (s0_2.length : Int) := of_decide_eq_true (by first | (with_reducible assumption) | assumption); obtain ⟨ad139, e139, hx139_0⟩ := Kd.at_int HSz25_2 x50_2 p139 q139; obtain rfl : ad137 = ad139 := (by injection e139); replace hx139_0 := pw_cell_below HB.out hx139_0; replace p139 := eq_true p139; replace q139 := eq_true q139))
               repeat (go_quiet (first | (go_at_call 73; (with_reducible refine (impl_inside.calls (rd s0_1 x50_2) (wrap64 (-ji12)) ji12 true _ A17.out).mono ?_); rintro e w' ⟨rfl, ⟨nd, rfl⟩⟩; (try first | exact ⟨rfl, _, World.drewN_drewN _ _ _⟩ | exact ⟨rfl, _, Eq.trans (World.drewN_drewN _ _ _) (congrArg (World.drewN _) (Nat.add_assoc _ _ _))⟩); have p137 : 0 ≤ (x50_2 : Int) := of_decide_eq_true (by first | (with_reducible assumption) | assumption); have q137 : x50_2 < (s0_2.length : Int) := of_decide_eq_true (by first | (with_reducible assumption) | assumption); obtain ⟨ad137, e137, hx137_0⟩ := Kd.at_int HSz25_2 x50_2 p137 q137; cases e137; replace hx137_0 := pw_cell_below HB.out hx137_0; replace p137 := eq_true p137; replace q137 := eq_true q137) | (go_at_call 73; (with_reducible refine (impl_inside.calls (rd s0_2 x50_2) (wrap64 ((rd s0_1 x50_2) + 1)) ji12 true _ A20.out).mono ?_); rintro e w' ⟨rfl, ⟨nd, rfl⟩⟩; (try first | exact ⟨rfl, _, World.drewN_drewN _ _ _⟩ | exact ⟨rfl, _, Eq.trans (World.drewN_drewN _ _ _) (congrArg (World.drewN _) (Nat.add_assoc _ _ _))⟩); have p139 : 0 ≤ (x50_2 : Int) := of_decide_eq_true (by first | (with_reducible assumption) | assumption); have q139 : x50_2 < (s0_2.length : Int) := of_decide_eq_true (by first | (with_reducible assumption) | assumption); obtain ⟨ad139, e139, hx139_0⟩ := Kd.at_int HSz25_2 x50_2 p139 q139; obtain rfl : ad137 = ad139 := (by injection e139); replace hx139_0 := pw_cell_below HB.out hx139_0; replace p139 := eq_true p139; replace q139 := eq_true q139)); try go_wp2_with (first | (go_at_call 73; (with_reducible refine (impl_inside.calls (rd s0_1 x50_2) (wrap64 (-ji12)) ji12 true _ A17.out).mono ?_); rintro e w' ⟨rfl, ⟨nd, rfl⟩⟩; (try first | exact ⟨rfl, _, World.drewN_drewN _ _ _⟩ | exact ⟨rfl, _, Eq.trans (World.drewN_drewN _ _ _) (congrArg (World.drewN _) (Nat.add_assoc _ _ _))⟩); have p137 : 0 ≤ (x50_2 : Int) := of_decide_eq_true (by first | (with_reducible assumption) | assumption); have q137 : x50_2 < (s0_2.length : Int) := of_decide_eq_true (by first | (with_reducible assumption) | assumption); obtain ⟨ad137, e137, hx137_0⟩ := Kd.at_int HSz25_2 x50_2 p137 q137; cases e137; replace hx137_0 := pw_cell_below HB.out hx137_0; replace p137 := eq_true p137; replace q137 := eq_true q137) | (go_at_call 73; (with_reducible refine (impl_inside.calls (rd s0_2 x50_2) (wrap64 ((rd s0_1 x50_2) + 1)) ji12 true _ A20.out).mono ?_); rintro e w' ⟨rfl, ⟨nd, rfl⟩⟩; (try first | exact ⟨rfl, _, World.drewN_drewN _ _ _⟩ | exact ⟨rfl, _, Eq.trans (World.drewN_drewN _ _ _) (congrArg (World.drewN _) (Nat.add_assoc _ _ _))⟩); have p139 : 0 ≤ (x50_2 : Int) := of_decide_eq_true (by first | (with_reducible assumption) | assumption); have q139 : x50_2 < (s0_2.length : Int) := of_decide_eq_true (by first | (with_reducible assumption) | assumption); obtain ⟨ad139, e139, hx139_0⟩ := Kd.at_int HSz25_2 x50_2 p139 q139; obtain rfl : ad137 = ad139 := (by injection e139); replace hx139_0 := pw_cell_below HB.out hx139_0; replace p139 := eq_true p139; replace q139 := eq_true q139)))
               go_roundg k2
               case measure => have := HJ1.out; have := HK2.out; omega
               case rel => exact ⟨(((Int.tmod (rd s0_2 x50_2) 2) != 0)), (wrap64 (x50_2 + 1)), (by first | rfl | (simp; done) | (simp [*]; done)), (by first | rfl | (simp; done) | (simp [*]; done)), H', ⟨by have := HJ1.out; have := HK2.out; omega⟩, ⟨(z57r_0 HI0)⟩, ⟨(z57r_1 HK)⟩, ⟨(z57r_2 HB)⟩⟩
              ·
               rw [if_neg c24] at H
               have c24b0 : ((Int.tmod (rd s0_1 x50_2) 2) == 0) = false := beq_eq_false_iff_ne.mpr c24
               have c24b1 : ((Int.tmod (rd s0_1 x50_2) 2) != 0) = true := bne_iff_ne.mpr c24
               have H' := Aside0.mk H
               clear H
               obtain ⟨ASz26_1, cSz26_1, ASz26_2, cSz26_2, HGz26, hgz26, HSz26_1, HSz26_2⟩ := HI0.out
               have hcz26_0 := cellS27_0 HGz26
               have hcz26_1 := cellS27_1 HGz26
               have hcz26_2 := cellS27_2 HGz26
               have hfz26_0 := blk_frozen HGz26 0
               clear HGz26 hgz26
               have p135 : 0 ≤ (x50_2 : Int) := of_decide_eq_true (by first | (with_reducible assumption) | assumption)
               have q135 : x50_2 < (s0_1.length : Int) := of_decide_eq_true (by first | (with_reducible assumption) | assumption)
               obtain ⟨ad135, e135, hx135_0⟩ := Kd.at_int HSz13_1 x50_2 p135 q135
               cases e135
               replace hx135_0 := pw_cell_below HB.out hx135_0
               replace p135 := eq_true p135
               replace q135 := eq_true q135
               go_wp2_with (first | (go_at_call 73; (with_reducible refine (impl_inside.calls (rd s0_1 x50_2) (wrap64 (-ji12)) ji12 true _ A17.out).mono ?_); rintro e w' ⟨rfl, ⟨nd, rfl⟩⟩; (try first | exact ⟨rfl, _, World.drewN_drewN _ _ _⟩ | exact ⟨rfl, _, Eq.trans (World.drewN_drewN _ _ _) (congrArg (World.drewN _) (Nat.add_assoc _ _ _))⟩); have p137 : 0 ≤ (x50_2 : Int) := of_decide_eq_true (by first | (with_reducible assumption) | assumption); have q137 : x50_2 < (s0_2.length : Int) := of_decide_eq_true (by first | (with_reducible assumption) | assumption); obtain ⟨ad137, e137, hx137_0⟩ := Kd.at_int HSz26_2 x50_2 p137 q137; cases e137; replace hx137_0 := pw_cell_below HB.out hx137_0; replace p137 := eq_true p137; replace q137 := eq_true q137) | (go_at_call 73; (with_reducible refine (impl_inside.calls (rd s0_2 x50_2) (wrap64 ((rd s0_1 x50_2) + 1)) ji12 true _ A20.out).mono ?_); rintro e w' ⟨rfl, ⟨nd, rfl⟩⟩; (try first | exact ⟨rfl, _, World.drewN_drewN _ _ _⟩ | exact ⟨rfl, _, Eq.trans (World.drewN_drewN _ _ _) (congrArg (World.drewN _) (Nat.add_assoc _ _ _))⟩)))
               repeat (go_quiet (first | (go_at_call 73; (with_reducible refine (impl_inside.calls (rd s0_1 x50_2) (wrap64 (-ji12)) ji12 true _ A17.out).mono ?_); rintro e w' ⟨rfl, ⟨nd, rfl⟩⟩; (try first | exact ⟨rfl, _, World.drewN_drewN _ _ _⟩ | exact ⟨rfl, _, Eq.trans (World.drewN_drewN _ _ _) (congrArg (World.drewN _) (Nat.add_assoc _ _ _))⟩); have p137 : 0 ≤ (x50_2 : Int) := of_decide_eq_true (by first | (with_reducible assumption) | assumption); have q137 : x50_2 < (s0_2.length : Int) := of_decide_eq_true (by first | (with_reducible assumption) | assumption); obtain ⟨ad137, e137, hx137_0⟩ := Kd.at_int HSz26_2 x50_2 p137 q137; cases e137; replace hx137_0 := pw_cell_below HB.out hx137_0; replace p137 := eq_true p137; replace q137 := eq_true q137) | (go_at_call 73; (with_reducible refine (impl_inside.calls (rd s0_2 x50_2) (wrap64 ((rd s0_1 x50_2) + 1)) ji12 true _ A20.out).mono ?_); rintro e w' ⟨rfl, ⟨nd, rfl⟩⟩; (try first | exact ⟨rfl, _, World.drewN_drewN _ _ _⟩ | exact ⟨rfl, _, Eq.trans (World.drewN_drewN _ _ _) (congrArg (World.drewN _) (Nat.add_assoc _ _ _))⟩))); try go_wp2_with (first | (go_at_call 73; (with_reducible refine (impl_inside.calls (rd s0_1 x50_2) (wrap64 (-ji12)) ji12 true _ A17.out).mono ?_); rintro e w' ⟨rfl, ⟨nd, rfl⟩⟩; (try first | exact ⟨rfl, _, World.drewN_drewN _ _ _⟩ | exact ⟨rfl, _, Eq.trans (World.drewN_drewN _ _ _) (congrArg (World.drewN _) (Nat.add_assoc _ _ _))⟩); have p137 : 0 ≤ (x50_2 : Int) := of_decide_eq_true (by first | (with_reducible assumption) | assumption); have q137 : x50_2 < (s0_2.length : Int) := of_decide_eq_true (by first | (with_reducible assumption) | assumption); obtain ⟨ad137, e137, hx137_0⟩ := Kd.at_int HSz26_2 x50_2 p137 q137; cases e137; replace hx137_0 := pw_cell_below HB.out hx137_0; replace p137 := eq_true p137; replace q137 := eq_true q137) | (go_at_call 73; (with_reducible refine (impl_inside.calls (rd s0_2 x50_2) (wrap64 ((rd s0_1 x50_2) + 1)) ji12 true _ A20.out).mono ?_); rintro e w' ⟨rfl, ⟨nd, rfl⟩⟩; (try first | exact ⟨rfl, _, World.drewN_drewN _ _ _⟩ | exact ⟨rfl, _, Eq.trans (World.drewN_drewN _ _ _) (congrArg (World.drewN _) (Nat.add_assoc _ _ _))⟩))))
               go_roundg k2
               case measure => have := HJ1.out; have := HK2.out; omega
               case rel => exact ⟨(true), (wrap64 (x50_2 + 1)), (by first | rfl | (simp; done) | (simp [*]; done)), (by first | rfl | (simp; done) | (simp [*]; done)), H', ⟨by have := HJ1.out; have := HK2.out; omega⟩, ⟨(z57r_0 HI0)⟩, ⟨(z57r_1 HK)⟩, ⟨(z57r_2 HB)⟩⟩
            ·
             replace c21 := Bool.eq_false_iff.mpr c21
             subst c21
             have H1 : (some (false, s0_0)) = some (r1, r2) := by rw [if_neg (show ¬ (false = true) by decide)] at H; exact H
             clear H
             have H := H1
             clear H1
             simp only [Option.some.injEq, Prod.mk.injEq] at H
             obtain ⟨rfl, rfl⟩ := H
             obtain ⟨ASz27_1, cSz27_1, ASz27_2, cSz27_2, HGz27, hgz27, HSz27_1, HSz27_2⟩ := HI0.out
             have hcz27_0 := cellS27_0 HGz27
             have hcz27_1 := cellS27_1 HGz27
             have hcz27_2 := cellS27_2 HGz27
             have hfz27_0 := blk_frozen HGz27 0
             clear HGz27 hgz27
             have p135 : 0 ≤ (x50_2 : Int) := of_decide_eq_true (by first | (with_reducible assumption) | assumption)
             have q135 : x50_2 < (s0_1.length : Int) := of_decide_eq_true (by first | (with_reducible assumption) | assumption)
             obtain ⟨ad135, e135, hx135_0⟩ := Kd.at_int HSz13_1 x50_2 p135 q135
             cases e135
             replace hx135_0 := pw_cell_below HB.out hx135_0
             replace p135 := eq_true p135
             replace q135 := eq_true q135
             go_wp2_with (first | (go_at_call 73; (with_reducible refine (impl_inside.calls (rd s0_1 x50_2) (wrap64 (-ji12)) ji12 true _ A17.out).mono ?_); rintro e w' ⟨rfl, ⟨nd, rfl⟩⟩; (try first | exact ⟨rfl, _, World.drewN_drewN _ _ _⟩ | exact ⟨rfl, _, Eq.trans (World.drewN_drewN _ _ _) (congrArg (World.drewN _) (Nat.add_assoc _ _ _))⟩); have p137 : 0 ≤ (x50_2 : Int) := of_decide_eq_true (by first | (with_reducible assumption) | assumption); have q137 : x50_2 < (s0_2.length : Int) := of_decide_eq_true (by first | (with_reducible assumption) | assumption); obtain ⟨ad137, e137, hx137_0⟩ := Kd.at_int HSz27_2 x50_2 p137 q137; cases e137; replace hx137_0 := pw_cell_below HB.out hx137_0; replace p137 := eq_true p137; replace q137 := eq_true q137) | (go_at_call 73; (with_reducible refine (impl_inside.calls (rd s0_2 x50_2) (wrap64 ((rd s0_1 x50_2) + 1)) ji12 false _ A20.out).mono ?_); rintro e w' ⟨rfl, ⟨nd, rfl⟩⟩; (try first | exact ⟨rfl, _, World.drewN_drewN _ _ _⟩ | exact ⟨rfl, _, Eq.trans (World.drewN_drewN _ _ _) (congrArg (World.drewN _) (Nat.add_assoc _ _ _))⟩)))
             repeat (go_quiet (first | (go_at_call 73; (with_reducible refine (impl_inside.calls (rd s0_1 x50_2) (wrap64 (-ji12)) ji12 true _ A17.out).mono ?_); rintro e w' ⟨rfl, ⟨nd, rfl⟩⟩; (try first | exact ⟨rfl, _, World.drewN_drewN _ _ _⟩ | exact ⟨rfl, _, Eq.trans (World.drewN_drewN _ _ _) (congrArg (World.drewN _) (Nat.add_assoc _ _ _))⟩); have p137 : 0 ≤ (x50_2 : Int) := of_decide_eq_true (by first | (with_reducible assumption) | assumption); have q137 : x50_2 < (s0_2.length : Int) := of_decide_eq_true (by first | (with_reducible assumption) | assumption); obtain ⟨ad137, e137, hx137_0⟩ := Kd.at_int HSz27_2 x50_2 p137 q137; cases e137; replace hx137_0 := pw_cell_below HB.out hx137_0; replace p137 := eq_true p137; replace q137 := eq_true q137) | (go_at_call 73; (with_reducible refine (impl_inside.calls (rd s0_2 x50_2) (wrap64 ((rd s0_1 x50_2) + 1)) ji12 false _ A20.out).mono ?_); rintro e w' ⟨rfl, ⟨nd, rfl⟩⟩; (try first | exact ⟨rfl, _, World.drewN_drewN _ _ _⟩ | exact ⟨rfl, _, Eq.trans (World.drewN_drewN _ _ _) (congrArg (World.drewN _) (Nat.add_assoc _ _ _))⟩))); try go_wp2_with (first | (go_at_call 73; (with_reducible refine (impl_inside.calls (rd s0_1 x50_2) (wrap64 (-ji12)) ji12 true _ A17.out).mono ?_); rintro e w' ⟨rfl, ⟨nd, rfl⟩⟩; (try first | exact ⟨rfl, _, World.drewN_drewN _ _ _⟩ | exact ⟨rfl, _, Eq.trans (World.drewN_drewN _ _ _) (congrArg (World.drewN _) (Nat.add_assoc _ _ _))⟩); have p137 : 0 ≤ (x50_2 : Int) := of_decide_eq_true (by first | (with_reducible assumption) | assumption); have q137 : x50_2 < (s0_2.length : Int) := of_decide_eq_true (by first | (with_reducible assumption) | assumption); obtain ⟨ad137, e137, hx137_0⟩ := Kd.at_int HSz27_2 x50_2 p137 q137; cases e137; replace hx137_0 := pw_cell_below HB.out hx137_0; replace p137 := eq_true p137; replace q137 := eq_true q137) | (go_at_call 73; (with_reducible refine (impl_inside.calls (rd s0_2 x50_2) (wrap64 ((rd s0_1 x50_2) + 1)) ji12 false _ A20.out).mono ?_); rintro e w' ⟨rfl, ⟨nd, rfl⟩⟩; (try first | exact ⟨rfl, _, World.drewN_drewN _ _ _⟩ | exact ⟨rfl, _, Eq.trans (World.drewN_drewN _ _ _) (congrArg (World.drewN _) (Nat.add_assoc _ _ _))⟩))))
             go_ret
             exact ⟨by first | rfl | (simp [errW_none, errW_some] <;> rfl) | (simp only [← hji12]; first | rfl | (simp [errW_none, errW_some] <;> rfl)) | (simp [*, errW_none, errW_some] <;> rfl), (z57r_0 HI0), (z57r_2 HB), (z57r_1 HK)⟩
           ·
            rw [if_neg c19] at H
            exact absurd H (by simp)
          ·
           replace c18 := Bool.eq_false_iff.mpr c18
           subst c18
           have H1 : (some (false, s0_0)) = some (r1, r2) := by rw [if_neg (show ¬ (false = true) by decide)] at H; exact H
           clear H
           have H := H1
           clear H1
           simp only [Option.some.injEq, Prod.mk.injEq] at H
           obtain ⟨rfl, rfl⟩ := H
           obtain ⟨ASz28_1, cSz28_1, ASz28_2, cSz28_2, HGz28, hgz28, HSz28_1, HSz28_2⟩ := HI0.out
           have hcz28_0 := cellS27_0 HGz28
           have hcz28_1 := cellS27_1 HGz28
           have hcz28_2 := cellS27_2 HGz28
           have hfz28_0 := blk_frozen HGz28 0
           clear HGz28 hgz28
           have p135 : 0 ≤ (x50_2 : Int) := of_decide_eq_true (by first | (with_reducible assumption) | assumption)
           have q135 : x50_2 < (s0_1.length : Int) := of_decide_eq_true (by first | (with_reducible assumption) | assumption)
           obtain ⟨ad135, e135, hx135_0⟩ := Kd.at_int HSz13_1 x50_2 p135 q135
           cases e135
           replace hx135_0 := pw_cell_below HB.out hx135_0
           replace p135 := eq_true p135
           replace q135 := eq_true q135
           go_wp2_with (first | (go_at_call 73; (with_reducible refine (impl_inside.calls (rd s0_1 x50_2) (wrap64 (-ji12)) ji12 false _ A17.out).mono ?_); rintro e w' ⟨rfl, ⟨nd, rfl⟩⟩; (try first | exact ⟨rfl, _, World.drewN_drewN _ _ _⟩ | exact ⟨rfl, _, Eq.trans (World.drewN_drewN _ _ _) (congrArg (World.drewN _) (Nat.add_assoc _ _ _))⟩)))
           repeat (go_quiet (first | (go_at_call 73; (with_reducible refine (impl_inside.calls (rd s0_1 x50_2) (wrap64 (-ji12)) ji12 false _ A17.out).mono ?_); rintro e w' ⟨rfl, ⟨nd, rfl⟩⟩; (try first | exact ⟨rfl, _, World.drewN_drewN _ _ _⟩ | exact ⟨rfl, _, Eq.trans (World.drewN_drewN _ _ _) (congrArg (World.drewN _) (Nat.add_assoc _ _ _))⟩))); try go_wp2_with (first | (go_at_call 73; (with_reducible refine (impl_inside.calls (rd s0_1 x50_2) (wrap64 (-ji12)) ji12 false _ A17.out).mono ?_); rintro e w' ⟨rfl, ⟨nd, rfl⟩⟩; (try first | exact ⟨rfl, _, World.drewN_drewN _ _ _⟩ | exact ⟨rfl, _, Eq.trans (World.drewN_drewN _ _ _) (congrArg (World.drewN _) (Nat.add_assoc _ _ _))⟩))))
           go_ret
           exact ⟨by first | rfl | (simp [errW_none, errW_some] <;> rfl) | (simp only [← hji12]; first | rfl | (simp [errW_none, errW_some] <;> rfl)) | (simp [*, errW_none, errW_some] <;> rfl), (z57r_0 HI0), (z57r_2 HB), (z57r_1 HK)⟩
         ·
          rw [if_neg c16] at H
          exact absurd H (by simp)
        ·
         rw [if_neg c15] at H
         exact absurd H (by simp)
       ·
        rw [if_neg c14] at H
        have c14b0 : decide (x50_2 < (s0_1.length : Int)) = false := decide_eq_false c14
        clear c14
        simp only [Option.some.injEq, Prod.mk.injEq] at H
        obtain ⟨rfl, rfl⟩ := H
        go_wp2
        repeat (go_quiet (fail); try go_wp2)
        go_ret
        exact ⟨by first | rfl | (simp [errW_none, errW_some] <;> rfl) | (simp only [← hji12]; first | rfl | (simp [errW_none, errW_some] <;> rfl)) | (simp [*, errW_none, errW_some] <;> rfl), (z57r_0 HI0), (z57r_2 HB), (z57r_1 HK)⟩
    ·
     rw [if_neg c11] at H
     exact absurd H (by simp)
theorem impl_isBox.reads (k g : Nat) (K : Int) (A1 : Option Addr) (c1 : Nat) (L : List Int) (A2 : Option Addr) (c2 : Nat) (H : List Int) (r1 : Bool) (r2 : Int) (w : World) (hb : w.heap[g]? = some (.cells #[.int .i64 K, .slice A1 L.length c1, .slice A2 H.length c2] 27 (0, 0))) (h1 : Kd.C (Kd.int .i64) w A1 L.length L) (h2 : Kd.C (Kd.int .i64) w A2 H.length H) (h : impl_isBox.f k K L H = some (r1, r2)) :
    Calls Try.prog 57 #[.pointer (some ⟨g, 0, none⟩)] w fun e w' => e = .returned (.bool r1) ∧ Below w.heap.size w w' :=
  (impl_isBox.readsI k g K L H r1 r2 w w ⟨A1, c1, A2, c2, hb, trivial, h1, h2⟩ (Below.refl _ _) h).mono (fun _ _ hp => ⟨hp.1, hp.2.2.1⟩)
set_option maxHeartbeats 8000000 in
set_option maxRecDepth 100000 in
theorem impl_boxOf.grow (n : Int) (w : World) (h0 : 0 ≤ n) (hn : n < 17592186044416) :
    Calls Try.prog 99 #[.slice none 0 0, .int .i64 n] w fun e w' => ∃ v : Value, e = .returned v ∧ Kd.R (Kd.int .i64) 3 w' w.heap.size (fun _ => True) v [] ∧ Below w.heap.size w w' := by
  have HB := Aside0.mk (Below.refl w.heap.size w)
  have e1 : wrap64 (((0 : Nat) : Int) - ((0 : Nat) : Int)) = 0 := by simp [wrap64]
  have e2 : wrap64 (n - 0) = n := by unfold wrap64; omega
  have e2' : wrap64 n = n := by unfold wrap64; omega
  have e0 : decide (n < 0) = false := decide_eq_false (by omega)
  by_cases hz : n = 0
  · subst hz
    go_enter Try.func99, Try.ntmps99
    go_wp2
    go_ret
    exact ⟨_, by first | rfl | (simp; done) | (simp [*]; done), Kd.R_nil _ _ _ _ _, (zb0 HB)⟩
  · have e3 : decide (0 < n) = true := decide_eq_true (by omega)
    obtain ⟨i0, hi0, hz0, hsz, hby⟩ := info_parts info3
    have hr : ∀ (ty : TypeId) (w : World), (Builtin.append_ #[22, 3] ty #[.slice none 0 0, .int .i64 n]).run Try.prog w = .ok (.slice (some ⟨w.heap.size, 0, none⟩) n.toNat (grownCap w n.toNat 0 3)) (w.drew.alloc (.cells (Builtin.zeroCells (.int .i64 0 : Value).cells n.toNat ++ Builtin.zeroCells (.int .i64 0 : Value).cells (grownCap w n.toNat 0 3 - n.toNat)) 3)) := by
      intro ty w
      have hx := Go.Lib.run_append_nil_zeros (P := Try.prog) w 22 3 ty 3 i0 (.int .i64 0) .i64 .i64 Try.underlying22 Try.underlying3 hi0 hz0 n.toNat (by omega) (by omega) (by omega) (by rw [hby]; omega)
      rw [Int.toNat_of_nonneg h0] at hx
      exact hx
    clear hz
    go_enter Try.func99, Try.ntmps99
    go_wp2_with ((with_reducible refine gate_builtin (b := .append) (xs := #[.tmp 20, .tmp 21]) rfl ?_); at_builtin; refine Go.Lib.wpList_append_run _ rfl _ _ _ _ rfl _ _ rfl rfl _ _ (hr _ _) ?_)
    go_ret
    refine ⟨_, by first | rfl | (simp; done) | (simp [*]; done), ⟨fun _ _ => trivial, [], ⟨rfl, .inr ⟨w.heap.size, grownCap w n.toNat 0 3, _, rfl, Nat.le_refl _, (by exact blk_drew (blk_new w _)), Nat.zero_le _, grownCap_le_maxLen w _ _ _ (by unfold maxLen; omega), ?_, by simp⟩⟩, Reps.none _ _⟩, (zb0 HB)⟩
    have hge := grownCap_ge w n.toNat 0 3
    simp [Builtin.zeroCells, Kd.int, Kd.scalar]
    omega
set_option maxHeartbeats 8000000 in
set_option maxRecDepth 100000 in
theorem impl_boxOf.concat (g : Nat) (A1 : Option Addr) (c1 : Nat) (l1 : List Int) (A2 : Option Addr) (c2 : Nat) (l2 : List Int) (w : World) (hG : w.heap[g]? = some (.cells #[.slice A1 l1.length c1, .slice A2 l2.length c2] 22 (0, 0))) (hr1 : Kd.C (Kd.int .i64) w A1 l1.length l1) (hr2 : Kd.C (Kd.int .i64) w A2 l2.length l2) (hm : l1.length + l2.length < 17592186044416) :
    Calls Try.prog 75 #[.slice (some ⟨g, 0, none⟩) 2 2] w fun e w' => ∃ v : Value, e = .returned v ∧ Kd.R (Kd.int .i64) 3 w' w.heap.size (fun _ => True) v (l1 ++ l2) ∧ Below w.heap.size w w' := by
  have HB := Aside0.mk (Below.refl w.heap.size w)
  have HR1 := Aside0.mk hr1
  have HR2 := Aside0.mk hr2
  have BKG := Aside0.mk hG
  have LM := Aside0.mk hm
  have s0 : wrap64 (0 + (l1.length : Int)) = (l1.length : Int) := by unfold wrap64; omega
  have s0' : wrap64 (l1.length : Int) = (l1.length : Int) := by unfold wrap64; omega
  have s1 : wrap64 ((l1.length : Int) + (l2.length : Int)) = (l1.length : Int) + (l2.length : Int) := by unfold wrap64; omega
  have n0 : decide ((l1.length : Int) < 0) = false := decide_eq_false (by omega)
  have n1 : decide ((l1.length : Int) + (l2.length : Int) < 0) = false := decide_eq_false (by omega)
  clear hr1 hr2 hG hm
  go_enter Try.func75, Try.ntmps75
  go_wp2
  go_loopg [3, 11] 2 (fun kq v3 v11 w' => Aside0 ((kq = 2 ∧ v3 = .int .i64 0 ∧ v11 = .int .i64 0) ∨ (kq = 1 ∧ v3 = .int .i64 (l1.length : Int) ∧ v11 = .int .i64 1) ∨ (kq = 0 ∧ v3 = .int .i64 ((l1.length : Int) + (l2.length : Int)) ∧ v11 = .int .i64 2)) ∧ Aside0 (w'.heap[g]? = some (.cells #[.slice A1 l1.length c1, .slice A2 l2.length c2] 22 (0, 0))) ∧ Aside0 (Below w.heap.size w w'))
  case atStart => exact ⟨⟨.inl ⟨rfl, rfl, rfl⟩⟩, ⟨zq1 BKG⟩, ⟨(zb0 HB)⟩⟩
  case round =>
    clear HB BKG
    obtain ⟨⟨hx⟩, BKG, HB⟩ := hrel
    have hd0 : wr.cell? ⟨g, 0, none⟩ = some (.slice A1 l1.length c1) := zc BKG 0
    have hd1 : wr.cell? ⟨g, 1, none⟩ = some (.slice A2 l2.length c2) := zc BKG 1
    rcases hx with ⟨rfl, rfl, rfl⟩ | ⟨rfl, rfl, rfl⟩ | ⟨rfl, rfl, rfl⟩
    · go_wp2
      go_roundg 1
      case measure => decide
      case rel => exact ⟨⟨.inr (.inl ⟨rfl, by first | rfl | (simp; done) | (simp [*]; done), by first | rfl | (simp; done) | (simp [*]; done)⟩)⟩, ⟨zq1 BKG⟩, ⟨(zb0 HB)⟩⟩
    · go_wp2
      go_roundg 0
      case measure => decide
      case rel => exact ⟨⟨.inr (.inr ⟨rfl, by first | rfl | (simp; done) | (simp [*]; done), by first | rfl | (simp; done) | (simp [*]; done)⟩)⟩, ⟨zq1 BKG⟩, ⟨(zb0 HB)⟩⟩
    · go_wp2_with (go_at_call 99; refine (impl_boxOf.grow ((l1.length : Int) + (l2.length : Int)) _ (by omega) (by have := LM.out; omega)).mono ?_; rintro e w5 ⟨v0, rfl, ho, hb⟩; have HO := Aside0.mk (Kd.R_lower ho (below_size (zb0 HB))); replace BKG := Aside0.mk (zbb BKG hb); replace HB := Aside0.mk (below_step (zb0 HB) hb); clear ho hb)
      go_loopg [6, 27] 2 (fun kq v6 v27 w' => ∃ (xs : List Int), Aside0 ((kq = 2 ∧ v27 = .int .i64 0 ∧ [] = xs) ∨ (kq = 1 ∧ v27 = .int .i64 1 ∧ l1 = xs) ∨ (kq = 0 ∧ v27 = .int .i64 2 ∧ l1 ++ l2 = xs)) ∧ Aside0 (w'.heap[g]? = some (.cells #[.slice A1 l1.length c1, .slice A2 l2.length c2] 22 (0, 0))) ∧ Aside0 (Kd.R (Kd.int .i64) 3 w' w.heap.size (fun _ => True) v6 xs) ∧ Aside0 (Below w.heap.size w w'))
      case atStart => exact ⟨[], ⟨.inl ⟨rfl, rfl, rfl⟩⟩, ⟨zq1 BKG⟩, ⟨zq3 HO⟩, ⟨(zb0 HB)⟩⟩
      case round =>
        clear hd0 hd1 HB BKG HO
        obtain ⟨xs, ⟨hx⟩, BKG, HO, HB⟩ := hrel
        have hd0 : wr.cell? ⟨g, 0, none⟩ = some (.slice A1 l1.length c1) := zc BKG 0
        have hd1 : wr.cell? ⟨g, 1, none⟩ = some (.slice A2 l2.length c2) := zc BKG 1
        rcases hx with ⟨rfl, rfl, rfl⟩ | ⟨rfl, rfl, rfl⟩ | ⟨rfl, rfl, rfl⟩
        · go_wp2_with (((with_reducible refine gate_builtin (b := .append) (xs := #[.tmp 31, .tmp 32]) rfl ?_); at_builtin; refine Kd.R_append_row (Value.int .i64) (0 : Int) (w0 := w) w.heap.size rfl (.tmp 31) (.tmp 32) 22 3 (.int .i64 0) 8 rfl Try.underlying22 info3 rfl (by decide) _ [] l1 A1 l1.length c1 (fun _ => True) rfl rfl (fun _ _ => trivial) (zq3 HO) (Kd.C_below HR1.out (zb0 HB)) (zb0 HB) (below_size (zb0 HB)) (by have := LM.out; simp; omega) ?_; intro v7 w7 ho hb hg hat; have HO7 := Aside0.mk ho; have BX := Aside0.mk (blk_grown (zq1 BKG) hg (Kd.R_ne HO.out BKG.out (by decide))); replace HB := Aside0.mk hb; clear ho hb hg hat BKG; have BKG := BX; clear BX))
          go_roundg 1
          case measure => decide
          case rel => exact ⟨l1, ⟨.inr (.inl ⟨rfl, by first | rfl | (simp; done) | (simp [*]; done), rfl⟩)⟩, ⟨zq1 BKG⟩, ⟨zq3 HO7⟩, ⟨(zb0 HB)⟩⟩
        · go_wp2_with (((with_reducible refine gate_builtin (b := .append) (xs := #[.tmp 31, .tmp 32]) rfl ?_); at_builtin; refine Kd.R_append_row (Value.int .i64) (0 : Int) (w0 := w) w.heap.size rfl (.tmp 31) (.tmp 32) 22 3 (.int .i64 0) 8 rfl Try.underlying22 info3 rfl (by decide) _ l1 l2 A2 l2.length c2 (fun _ => True) rfl rfl (fun _ _ => trivial) (zq3 HO) (Kd.C_below HR2.out (zb0 HB)) (zb0 HB) (below_size (zb0 HB)) (by have := LM.out; simp; omega) ?_; intro v7 w7 ho hb hg hat; have HO7 := Aside0.mk ho; have BX := Aside0.mk (blk_grown (zq1 BKG) hg (Kd.R_ne HO.out BKG.out (by decide))); replace HB := Aside0.mk hb; clear ho hb hg hat BKG; have BKG := BX; clear BX))
          go_roundg 0
          case measure => decide
          case rel => exact ⟨l1 ++ l2, ⟨.inr (.inr ⟨rfl, by first | rfl | (simp; done) | (simp [*]; done), rfl⟩)⟩, ⟨zq1 BKG⟩, ⟨zq3 HO7⟩, ⟨(zb0 HB)⟩⟩
        · go_wp2
          go_ret
          exact ⟨_, by first | rfl | (simp; done) | (simp [*]; done), zq3 HO, (zb0 HB)⟩
set_option maxHeartbeats 8000000 in
theorem impl_boxOf.clone (A0 : Option Addr) (c0 : Nat) (l0 : List Int) (w : World) (hr0 : Kd.C (Kd.int .i64) w A0 l0.length l0) (hm : l0.length < 17592186044416) :
    Calls Try.prog 100 #[.slice A0 l0.length c0] w fun e w' => ∃ v0_ : Value, e = .returned (v0_) ∧ Kd.R (Kd.int .i64) 3 w' w.heap.size (fun _ => True) v0_ l0 ∧ Below w.heap.size w w' := by
  have HR0 := Aside0.mk hr0
  have HB := Aside0.mk (Below.refl w.heap.size w)
  have LM := Aside0.mk hm
  have q22 : ∀ (w : World) (a : Option Addr) (n c : Nat), (binOp .eql 22 (.slice a n c) (.slice none 0 0)).run Try.prog w = .ok (.bool a.isNone) w := fun w a n c => Go.Lib.run_eql_slice_nil w 22 3 a n c _ _ Try.underlying22
  cases A0 with
  | none =>
    have hl : l0 = [] := by
      rcases Nat.eq_zero_or_pos l0.length with h | h
      · exact List.length_eq_zero_iff.1 h
      · obtain ⟨ad, e, _⟩ := Kd.at_int hr0 0 (by omega) (by omega); cases e
    subst hl
    clear hr0 hm
    go_enter Try.func100, Try.ntmps100
    go_wp2
    go_ret
    exact ⟨_, by first | rfl | (simp; done) | (simp [*]; done), Kd.R_nil _ _ _ _ _, (zb0 HB)⟩
  | some ad =>
    clear hr0 hm
    go_enter Try.func100, Try.ntmps100
    go_wp2_with (first | ((with_reducible refine gate_dst (N := 5) rfl ?_); refine Kd.R_lit (Kd.int .i64) (w0 := w) w.heap.size 3 ?hg (N := 5) ?hd (xs := ([] : List Int)) (inner := []) (ok := fun _ => True) (okp := fun _ => True) ?hr ?hp (fun _ hk => hk) trivial (zb0 HB) (below_size (zb0 HB)) (by simp) ?_; (case hd => rfl); (case hg => rfl); (case hr => first | (go_simp; done) | (go_simp; rfl)); (case hp => exact Reps.none _ _); intro v5 w5 ho hb hg hat; have HO := Aside0.mk ho; replace HB := Aside0.mk hb; clear ho hb hg hat) | ((with_reducible refine gate_builtin (b := .append) (xs := #[.tmp 5, .tmp 6]) rfl ?_); at_builtin; refine Kd.R_append_row (Value.int .i64) (0 : Int) (w0 := w) w.heap.size rfl (.tmp 5) (.tmp 6) 22 3 (.int .i64 0) 8 rfl Try.underlying22 info3 rfl (by decide) _ [] l0 (some ad) l0.length c0 (fun _ => True) rfl rfl (fun _ _ => trivial) (zq3 HO) (Kd.C_below HR0.out (zb0 HB)) (zb0 HB) (below_size (zb0 HB)) (by have := LM.out; simp; omega) ?_; intro v7 w7 ho hb hg hat; have HO7 := Aside0.mk ho; replace HB := Aside0.mk hb; clear ho hb hg hat))
    go_ret
    exact ⟨_, by first | rfl | (simp; done) | (simp [*]; done), by have h_ := HO7.out; rw [List.nil_append] at h_; exact h_, (zb0 HB)⟩
set_option maxHeartbeats 8000000 in
theorem impl_boxOf.clos (n : Int) (w : World) : Calls Try.prog 101 #[.int .i64 n] w fun e w' => e = .returned (.bool (impl_boxOf.p n)) ∧ Below w.heap.size w w' := by
  have HB := Aside0.mk (Below.refl w.heap.size w)
  go_enter Try.func101, Try.ntmps101
  go_wp2
  go_ret
  exact ⟨by first | rfl | (unfold impl_boxOf.p; simp; done) | (simp [*]; done), (zb0 HB)⟩
set_option maxHeartbeats 8000000 in
theorem impl_boxOf.index (k : Nat) (A0 : Option Addr) (c0 : Nat) (l0 : List Int) (r : Int) (w : World) (hr0 : Kd.C (Kd.int .i64) w A0 l0.length l0) (h : impl_boxOf.ix k l0 0 = some r) :
    Calls Try.prog 98 #[.slice A0 l0.length c0, .func (.func 101) #[] #[]] w fun e w' => e = .returned (.int .i64 r) ∧ Below w.heap.size w w' := by
  have HR0 := Aside0.mk hr0
  have HB := Aside0.mk (Below.refl w.heap.size w)
  have H' := Aside0.mk h
  clear hr0 h
  go_enter Try.func98, Try.ntmps98
  go_wp2
  go_loopg [8] k (fun kq v8 w' => ∃ (i : Int), v8 = .int .i64 i ∧ Aside0 (impl_boxOf.ix kq l0 i = some r) ∧ Aside0 (kq ≤ k) ∧ Aside0 (Below w.heap.size w w'))
  case atStart => exact ⟨0, (by first | rfl | (simp; done) | (simp [*]; done)), H', ⟨Nat.le_refl _⟩, ⟨(zb0 HB)⟩⟩
  case round =>
    clear H' HB
    obtain ⟨i, rfl, HA, HK1, HB⟩ := hrel
    cases gk with
    | zero => exact absurd HA.out (by simp [impl_boxOf.ix])
    | succ k1 =>
      have H := HA.out
      clear HA
      simp only [impl_boxOf.ix] at H
      by_cases c : i < (l0.length : Int)
      · rw [if_pos c] at H
        by_cases c' : 0 ≤ i
        · rw [if_pos c'] at H
          have cb := decide_eq_true c
          have cb' := decide_eq_true c'
          obtain ⟨ad, ead, hx0⟩ := Kd.at_int HR0.out i c' c
          subst ead
          replace hx0 := (HB.out.cell (World.block_lt_of_cell? w _ hx0)).trans hx0
          have p1 := eq_true c
          have p2 := eq_true c'
          clear c c'
          by_cases cg : impl_boxOf.p (rd l0 i) = true
          · rw [if_pos cg] at H
            obtain rfl := Option.some.inj H
            go_wp2_with (go_at_call 101; refine (impl_boxOf.clos (rd l0 i) _).mono ?_; rintro e w6 ⟨rfl, hb⟩; replace HB := Aside0.mk (below_step (zb0 HB) hb); clear hb)
            go_ret
            exact ⟨by first | rfl | (simp; done) | (simp [*]; done), (zb1 HB)⟩
          · rw [if_neg cg] at H
            have H' := Aside0.mk H
            replace cg := Bool.eq_false_iff.mpr cg
            clear H
            go_wp2_with (go_at_call 101; refine (impl_boxOf.clos (rd l0 i) _).mono ?_; rintro e w6 ⟨rfl, hb⟩; replace HB := Aside0.mk (below_step (zb0 HB) hb); clear hb)
            go_roundg k1
            case measure => have := HK1.out; omega
            case rel => exact ⟨(wrap64 (i + 1)), (by first | rfl | (simp; done) | (simp [*]; done)), H', ⟨by have := HK1.out; omega⟩, ⟨(zb0 HB)⟩⟩
        · rw [if_neg c'] at H; cases H
      · rw [if_neg c] at H
        obtain rfl := Option.some.inj H
        have cb := decide_eq_false c
        clear c
        go_wp2
        go_ret
        exact ⟨by first | rfl | (simp; done) | (simp [*]; done), (zb1 HB)⟩
theorem impl_boxOf.cont (k : Nat) (A0 : Option Addr) (c0 : Nat) (l0 : List Int) (r : Int) (w : World) (hr0 : Kd.C (Kd.int .i64) w A0 l0.length l0) (h : impl_boxOf.ix k l0 0 = some r) :
    Calls Try.prog 74 #[.slice A0 l0.length c0, .func (.func 101) #[] #[]] w fun e w' => e = .returned (.bool (decide (r ≥ 0))) ∧ Below w.heap.size w w' := by
  have HB := Aside0.mk (Below.refl w.heap.size w)
  go_enter Try.func74, Try.ntmps74
  go_wp2_with (go_at_call 98; refine (impl_boxOf.index k _ _ l0 r _ hr0 h).mono ?_; rintro e w6 ⟨rfl, hb⟩; replace HB := Aside0.mk (below_step (zb0 HB) hb); clear hb)
  go_ret
  exact ⟨by first | rfl | (simp; done) | (simp [*]; done), (zb1 HB)⟩
theorem zbs {P : Program} {ops : Array Oper} {rest : List Oper} {o : Oper} {a : Act} {Q : Exit → Act → World → Prop} {W : World} {N : Tmp} {cs : Array Value} {t : TypeId} {n : Nat}
    (h : ∀ g, g = W.heap.size → ∀ w1, w1.heap[g]? = some (.cells cs t (0, 0)) → Below W.heap.size W w1 → wpList P ops Q rest (a.put o.dst (.slice (some ⟨g, 0, none⟩) n n)) w1) (hd : o.dst = some N := by rfl) (hgd : o.guard = none := by rfl)
    (hrun : (execOp a.eval o).run P W = .ok (.value (.slice (some ⟨W.heap.size, 0, none⟩) n n)) (W.alloc (.cells cs t (0, 0))) := by first | (go_simp; done) | (go_simp; rfl)) : wpList P ops Q (o :: rest) a W :=
  Kd.event_run hgd hrun (h _ rfl _ (blk_new W _) (below_alloc (Below.refl _ _) _))
set_option maxHeartbeats 8000000 in
set_option maxRecDepth 100000 in
theorem impl_boxOf.calls (k : Nat) (a0 : Int) (A1 : Option Addr) (c1 : Nat) (l1 : List Int) (A2 : Option Addr) (c2 : Nat) (l2 : List Int) (r1 : Int) (r2 : List Int) (r3 : List Int) (r4 : Bool) (w : World) (hr1 : Kd.C (Kd.int .i64) w A1 l1.length l1) (hc1 : l1.length ≤ c1) (hr2 : Kd.C (Kd.int .i64) w A2 l2.length l2) (hc2 : l2.length ≤ c2) (h : impl_boxOf.f k a0 l1 l2 = some (r1, r2, r3, r4)) :
    Calls Try.prog 77 #[.int .i64 a0, .slice A1 l1.length c1, .slice A2 l2.length c2] w fun e w' => ∃ v1_ v2_ : Value, e = .returned (.tuple #[.agg #[.int .i64 r1, v1_, v2_], .bool r4]) ∧ Kd.R (Kd.int .i64) 3 w' w.heap.size (fun k_ => some k_ ≠ (v2_ : Value).ownBlock) v1_ r2 ∧ Kd.R (Kd.int .i64) 3 w' w.heap.size (fun k_ => some k_ ≠ (v1_ : Value).ownBlock) v2_ r3 ∧ Below w.heap.size w w' := by
  have hu27 := Try.underlying27
  have HR1 := Aside0.mk hr1
  have HR2 := Aside0.mk hr2
  have HB := Aside0.mk (Below.refl w.heap.size w)
  clear hr1 hc1 hr2 hc2
  unfold impl_boxOf.f at h
  by_cases hl : l1.length + l2.length < 17592186044416
  · rw [if_pos hl] at h
    have LM := Aside0.mk hl
    have H' := Aside0.mk h
    clear hl h
    go_enter Try.func77, Try.ntmps77
    go_wp2_with (first | ((with_reducible refine gate_dst (N := 6) rfl ?_); refine zbe (N := 6) (cs := #[.int .i64 0, .slice none 0 0, .slice none 0 0]) (t := 27) ?_; intro gb6 hg wb6 hbox hb; have BK6 := Aside0.mk hbox; have GW6 := Aside0.mk (zge (zb1 HB) hg); replace HB := Aside0.mk (below_step (zb1 HB) hb); clear hb hbox hg) | ((with_reducible refine gate_callee (f := 100) rfl ?_); refine goesL_ (some 14) rfl rfl Try.func100 (by kernel_rfl) rfl #[.slice A1 l1.length c1] rfl zq6 ?_; refine (impl_boxOf.clone A1 c1 l1 _ (Kd.C_below HR1.out (zb1 HB)) (by have := LM.out; omega)).mono ?_; rintro e w7 ⟨v1, rfl, ho0, hb⟩; refine ⟨_, rfl, ?_⟩; have HO1 := Aside0.mk (Kd.R_lower ho0 (below_size (zb1 HB))); replace BK6 := Aside0.mk (zbb BK6 hb); replace HB := Aside0.mk (below_step (zb1 HB) hb); clear hb ho0) | ((with_reducible refine gate_callee (f := 100) rfl ?_); refine goesL_ (some 16) rfl rfl Try.func100 (by kernel_rfl) rfl #[.slice A2 l2.length c2] rfl zq6 ?_; refine (impl_boxOf.clone A2 c2 l2 _ (Kd.C_below HR2.out (zb1 HB)) (by have := LM.out; omega)).mono ?_; rintro e w8 ⟨v2, rfl, ho0, hb⟩; refine ⟨_, rfl, ?_⟩; have HO2 := Aside0.mk (Kd.R_lower (Kd.R_new' ho0 (Kd.R_lt (zq3 HO1))) (below_size (zb1 HB))); replace HO1 := Aside0.mk (Kd.R_elder' (zq3 HO1) (Kd.R_base ho0) hb); replace BK6 := Aside0.mk (zbb BK6 hb); replace HB := Aside0.mk (below_step (zb1 HB) hb); clear hb ho0; obtain ⟨A9, c9, eo9⟩ := Kd.R_slice HO2.out; subst eo9; obtain ⟨A10, c10, eo10⟩ := Kd.R_slice HO1.out; subst eo10) | ((with_reducible refine gate_dst (N := 8) rfl ?_); refine zbe (N := 8) (cs := #[.int .i64 0, .slice none 0 0, .slice none 0 0]) (t := 27) ?_; intro gb8 hg wb8 hbox hb; have BK8 := Aside0.mk hbox; have GW8 := Aside0.mk (zge (zb1 HB) hg); have NB68 := Aside0.mk (zlt BK6 hg); have NB86 := Aside0.mk (zgt BK6 hg); replace HO1 := Aside0.mk (Kd.R_below (zq3 HO1) hb); replace HO2 := Aside0.mk (Kd.R_below (zq3 HO2) hb); replace BK6 := Aside0.mk (zbb BK6 hb); replace HB := Aside0.mk (below_step (zb1 HB) hb); clear hb hbox hg; have hnb12 := NB86.out; have hnc12 := NB68.out; have hcz_0 : wb8.cell? ⟨gb8, 0, none⟩ = some (.int .i64 0) := zc BK8 0; have hfz_0 := blk_frozen BK8.out 0; have hcz_1 : wb8.cell? ⟨gb8, 1, none⟩ = some (.slice none 0 0) := zc BK8 1; have hfz_1 := blk_frozen BK8.out 1; have hcz_2 : wb8.cell? ⟨gb8, 2, none⟩ = some (.slice none 0 0) := zc BK8 2; have hfz_2 := blk_frozen BK8.out 2))
    go_loopg [] k (fun kq w' => ∃ (K : Int) (L H : List Int) (u1 u2 : Value), Aside0 (impl_boxOf.l0 kq K L H = some (r1, r2, r3, r4)) ∧ Aside0 (kq ≤ k) ∧ Aside0 (Kd.R (Kd.int .i64) 3 w' w.heap.size (fun k_ => some k_ ≠ (u2 : Value).ownBlock) u1 L) ∧ Aside0 (Kd.R (Kd.int .i64) 3 w' w.heap.size (fun k_ => some k_ ≠ (u1 : Value).ownBlock) u2 H) ∧ Aside0 (w'.heap[gb6]? = some (.cells #[.int .i64 0, .slice none 0 0, .slice none 0 0] 27 (0, 0))) ∧ Aside0 (w'.heap[gb8]? = some (.cells #[.int .i64 K, u1, u2] 27 (0, 0))) ∧ Aside0 (Below w.heap.size w w'))
    case atStart => exact ⟨a0, l1, l2, (.slice A10 l1.length c10), (.slice A9 l2.length c9), H', ⟨Nat.le_refl _⟩, ⟨(by (with_reducible repeat (first | apply Kd.R_alloc | apply Kd.R_drewN | apply Kd.R_drew)); exact Kd.R_mono (Kd.R_far (p := ⟨gb8, 2, none⟩) (Kd.R_far (p := ⟨gb8, 1, none⟩) (Kd.R_far (p := ⟨gb8, 0, none⟩) (Kd.R_types HO1.out BK8.out (by decide)) (fun _ hk => hk.2) (.int .i64 a0)) (fun _ hk => hk.2) (.slice A10 l1.length c10)) (fun _ hk => hk.2) (.slice A9 l2.length c9)) (fun _ hk => hk.1.2))⟩, ⟨(by (with_reducible repeat (first | apply Kd.R_alloc | apply Kd.R_drewN | apply Kd.R_drew)); exact Kd.R_mono (Kd.R_far (p := ⟨gb8, 2, none⟩) (Kd.R_far (p := ⟨gb8, 1, none⟩) (Kd.R_far (p := ⟨gb8, 0, none⟩) (Kd.R_types HO2.out BK8.out (by decide)) (fun _ hk => hk.2) (.int .i64 a0)) (fun _ hk => hk.2) (.slice A10 l1.length c10)) (fun _ hk => hk.2) (.slice A9 l2.length c9)) (fun _ hk => hk.1.2))⟩, ⟨zq5 BK6⟩, ⟨blk_put (cs := #[.int .i64 a0, .slice A10 l1.length c10, .slice none 0 0]) (blk_put (cs := #[.int .i64 a0, .slice none 0 0, .slice none 0 0]) (blk_put (cs := #[.int .i64 0, .slice none 0 0, .slice none 0 0]) BK8.out 0 _ rfl) 1 _ rfl) 2 _ rfl⟩, ⟨(zb1 HB)⟩⟩
    case round =>
      clear H' HO1 HO2 BK6 BK8 HB hcz_0 hcz_1 hcz_2 hfz_0 hfz_1 hfz_2
      obtain ⟨K, L, H, u1, u2, HA, HK1, HO1, HO2, BK6, BK8, HB⟩ := hrel
      cases gk with
      | zero => exact absurd HA.out (by simp [impl_boxOf.l0])
      | succ k1 =>
        have h := HA.out
        clear HA
        simp only [impl_boxOf.l0] at h
        have hd0 : wr.cell? ⟨gb8, 0, none⟩ = some (.int .i64 K) := zc BK8 0
        have hd1 : wr.cell? ⟨gb8, 1, none⟩ = some u1 := zc BK8 1
        have hd2 : wr.cell? ⟨gb8, 2, none⟩ = some u2 := zc BK8 2
        obtain ⟨o1, e1, eo1⟩ := Kd.R_slice HO1.out
        subst eo1
        obtain ⟨o2, e2, eo2⟩ := Kd.R_slice HO2.out
        subst eo2
        by_cases cK : K > 0
        · rw [if_pos cK] at h
          by_cases cl : L.length + H.length < 17592186044416
          · rw [if_pos cl] at h
            obtain ⟨M, hM0⟩ : ∃ M_ : List Int, M_ = L ++ H := ⟨_, rfl⟩
            rw [← hM0] at h
            have NM := Aside0.mk hM0
            clear hM0
            obtain ⟨t, hI0, h⟩ := Option.bind_eq_some_iff.mp h
            have hI := Aside0.mk hI0
            have LN := Aside0.mk cl
            have cKb : decide (K > 0) = true := decide_eq_true cK
            have cKb' : decide (0 < K) = true := decide_eq_true cK
            clear hI0 cl
            by_cases ct : t ≥ 0
            · rw [if_pos ct] at h
              have ctb := decide_eq_true ct
              clear ct cK
              unfold impl_boxOf.fin at h
              obtain ⟨⟨b1, p2⟩, hA0, h⟩ := Option.bind_eq_some_iff.mp h
              have hA := Aside0.mk hA0
              clear hA0
              cases b1
              · rw [if_neg Bool.false_ne_true] at h
                simp only [Option.some.injEq, Prod.mk.injEq] at h
                obtain ⟨rfl, rfl, rfl, rfl⟩ := h
                go_wp2_with (first | (go_at_call 75; refine (impl_boxOf.concat wr.heap.size _ e1 L _ e2 H _ (by exact blk_new wr _) (Kd.C_alloc (Kd.R_reads' HO1.out).2.2 _) (Kd.C_alloc (Kd.R_reads' HO2.out).2.2 _) LN.out).mono ?_; rintro e w5 ⟨v5, rfl, ho, hb⟩; rw [← NM.out] at ho; obtain ⟨o5, e5, eo5⟩ := Kd.R_slice ho; subst eo5; have HX := Aside0.mk (Kd.R_reads' ho).2.2; clear ho; replace HO1 := Aside0.mk (Kd.R_below (zq3 HO1) hb); replace HO2 := Aside0.mk (Kd.R_below (zq3 HO2) hb); replace BK6 := Aside0.mk (zbb BK6 hb); replace BK8 := Aside0.mk (zbb BK8 hb); replace HB := Aside0.mk (below_step (zb1 HB) hb); clear hb; have hnbb := NB86.out; have hncb := NB68.out; have hczb_0 : w5.cell? ⟨gb8, 0, none⟩ = some (.int .i64 K) := zc BK8 0; have hfzb_0 := blk_frozen BK8.out 0; have hczb_1 : w5.cell? ⟨gb8, 1, none⟩ = some (.slice o1 L.length e1) := zc BK8 1; have hfzb_1 := blk_frozen BK8.out 1; have hczb_2 : w5.cell? ⟨gb8, 2, none⟩ = some (.slice o2 H.length e2) := zc BK8 2; have hfzb_2 := blk_frozen BK8.out 2) | (go_at_call 74; refine (impl_boxOf.cont k1 _ _ M t _ HX.out hI.out).mono ?_; rintro e w6 ⟨rfl, hb⟩; replace HO1 := Aside0.mk (Kd.R_below (zq3 HO1) hb); replace HO2 := Aside0.mk (Kd.R_below (zq3 HO2) hb); replace BK6 := Aside0.mk (zbb BK6 hb); replace BK8 := Aside0.mk (zbb BK8 hb); replace HB := Aside0.mk (below_step (zb1 HB) hb); clear hb; have hnbc := NB86.out; have hncc := NB68.out; have hczc_0 : w6.cell? ⟨gb8, 0, none⟩ = some (.int .i64 K) := zc BK8 0; have hfzc_0 := blk_frozen BK8.out 0; have hczc_1 : w6.cell? ⟨gb8, 1, none⟩ = some (.slice o1 L.length e1) := zc BK8 1; have hfzc_1 := blk_frozen BK8.out 1; have hczc_2 : w6.cell? ⟨gb8, 2, none⟩ = some (.slice o2 H.length e2) := zc BK8 2; have hfzc_2 := blk_frozen BK8.out 2) | (go_at_call 57; refine (impl_isBox.reads k1 gb8 K _ e1 L _ e2 H false p2 _ (zq1 BK8) (Kd.R_reads' (zq3 HO1 : Kd.R (Kd.int .i64) 3 _ _ _ _ _)).2.2 (Kd.R_reads' (zq3 HO2 : Kd.R (Kd.int .i64) 3 _ _ _ _ _)).2.2 hA.out).mono ?_; rintro e w7 ⟨rfl, hb⟩; replace HO1 := Aside0.mk (Kd.R_below (zq3 HO1) hb); replace HO2 := Aside0.mk (Kd.R_below (zq3 HO2) hb); replace BK6 := Aside0.mk (zbb BK6 hb); replace BK8 := Aside0.mk (zbb BK8 hb); replace HB := Aside0.mk (below_step (zb1 HB) hb); clear hb; have hnbd := NB86.out; have hncd := NB68.out; have hczd_0 : w7.cell? ⟨gb8, 0, none⟩ = some (.int .i64 K) := zc BK8 0; have hfzd_0 := blk_frozen BK8.out 0; have hczd_1 : w7.cell? ⟨gb8, 1, none⟩ = some (.slice o1 L.length e1) := zc BK8 1; have hfzd_1 := blk_frozen BK8.out 1; have hczd_2 : w7.cell? ⟨gb8, 2, none⟩ = some (.slice o2 H.length e2) := zc BK8 2; have hfzd_2 := blk_frozen BK8.out 2; have hcyd_0 : w7.cell? ⟨gb6, 0, none⟩ = some (.int .i64 0) := zc BK6 0; have hfyd_0 := blk_frozen BK6.out 0; have hcyd_1 : w7.cell? ⟨gb6, 1, none⟩ = some (.slice none 0 0) := zc BK6 1; have hfyd_1 := blk_frozen BK6.out 1; have hcyd_2 : w7.cell? ⟨gb6, 2, none⟩ = some (.slice none 0 0) := zc BK6 2; have hfyd_2 := blk_frozen BK6.out 2))
                refine bodyPost_ret (results_ct rfl _ _ gb6 27 #[.int .i64 0, .slice none 0 0, .slice none 0 0] (0, 0) _ rfl (by exact blk_put (cs := #[.int .i64 0, .slice none 0 0, .slice none 0 0]) (blk_put (cs := #[.int .i64 0, .slice none 0 0, .slice none 0 0]) (blk_put (cs := #[.int .i64 0, .slice none 0 0, .slice none 0 0]) BK6.out 0 _ rfl) 1 _ rfl) 2 _ rfl) Try.underlying27 rfl (by kernel_rfl)) rfl ?_
                exact ⟨_, _, by first | rfl | (simp; done) | (simp [*]; done), Kd.R_nil _ _ _ _ _, Kd.R_nil _ _ _ _ _, (zb1 HB)⟩
              · rw [if_pos rfl] at h
                simp only [Option.some.injEq, Prod.mk.injEq] at h
                obtain ⟨rfl, rfl, rfl, rfl⟩ := h
                go_wp2_with (first | (go_at_call 75; refine (impl_boxOf.concat wr.heap.size _ e1 L _ e2 H _ (by exact blk_new wr _) (Kd.C_alloc (Kd.R_reads' HO1.out).2.2 _) (Kd.C_alloc (Kd.R_reads' HO2.out).2.2 _) LN.out).mono ?_; rintro e w5 ⟨v5, rfl, ho, hb⟩; rw [← NM.out] at ho; obtain ⟨o5, e5, eo5⟩ := Kd.R_slice ho; subst eo5; have HX := Aside0.mk (Kd.R_reads' ho).2.2; clear ho; replace HO1 := Aside0.mk (Kd.R_below (zq3 HO1) hb); replace HO2 := Aside0.mk (Kd.R_below (zq3 HO2) hb); replace BK6 := Aside0.mk (zbb BK6 hb); replace BK8 := Aside0.mk (zbb BK8 hb); replace HB := Aside0.mk (below_step (zb1 HB) hb); clear hb; have hnbb := NB86.out; have hncb := NB68.out; have hczb_0 : w5.cell? ⟨gb8, 0, none⟩ = some (.int .i64 K) := zc BK8 0; have hfzb_0 := blk_frozen BK8.out 0; have hczb_1 : w5.cell? ⟨gb8, 1, none⟩ = some (.slice o1 L.length e1) := zc BK8 1; have hfzb_1 := blk_frozen BK8.out 1; have hczb_2 : w5.cell? ⟨gb8, 2, none⟩ = some (.slice o2 H.length e2) := zc BK8 2; have hfzb_2 := blk_frozen BK8.out 2) | (go_at_call 74; refine (impl_boxOf.cont k1 _ _ M t _ HX.out hI.out).mono ?_; rintro e w6 ⟨rfl, hb⟩; replace HO1 := Aside0.mk (Kd.R_below (zq3 HO1) hb); replace HO2 := Aside0.mk (Kd.R_below (zq3 HO2) hb); replace BK6 := Aside0.mk (zbb BK6 hb); replace BK8 := Aside0.mk (zbb BK8 hb); replace HB := Aside0.mk (below_step (zb1 HB) hb); clear hb; have hnbc := NB86.out; have hncc := NB68.out; have hczc_0 : w6.cell? ⟨gb8, 0, none⟩ = some (.int .i64 K) := zc BK8 0; have hfzc_0 := blk_frozen BK8.out 0; have hczc_1 : w6.cell? ⟨gb8, 1, none⟩ = some (.slice o1 L.length e1) := zc BK8 1; have hfzc_1 := blk_frozen BK8.out 1; have hczc_2 : w6.cell? ⟨gb8, 2, none⟩ = some (.slice o2 H.length e2) := zc BK8 2; have hfzc_2 := blk_frozen BK8.out 2) | (go_at_call 57; refine (impl_isBox.reads k1 gb8 K _ e1 L _ e2 H true p2 _ (zq1 BK8) (Kd.R_reads' (zq3 HO1 : Kd.R (Kd.int .i64) 3 _ _ _ _ _)).2.2 (Kd.R_reads' (zq3 HO2 : Kd.R (Kd.int .i64) 3 _ _ _ _ _)).2.2 hA.out).mono ?_; rintro e w7 ⟨rfl, hb⟩; replace HO1 := Aside0.mk (Kd.R_below (zq3 HO1) hb); replace HO2 := Aside0.mk (Kd.R_below (zq3 HO2) hb); replace BK6 := Aside0.mk (zbb BK6 hb); replace BK8 := Aside0.mk (zbb BK8 hb); replace HB := Aside0.mk (below_step (zb1 HB) hb); clear hb; have hnbd := NB86.out; have hncd := NB68.out; have hczd_0 : w7.cell? ⟨gb8, 0, none⟩ = some (.int .i64 K) := zc BK8 0; have hfzd_0 := blk_frozen BK8.out 0; have hczd_1 : w7.cell? ⟨gb8, 1, none⟩ = some (.slice o1 L.length e1) := zc BK8 1; have hfzd_1 := blk_frozen BK8.out 1; have hczd_2 : w7.cell? ⟨gb8, 2, none⟩ = some (.slice o2 H.length e2) := zc BK8 2; have hfzd_2 := blk_frozen BK8.out 2; have hcyd_0 : w7.cell? ⟨gb6, 0, none⟩ = some (.int .i64 0) := zc BK6 0; have hfyd_0 := blk_frozen BK6.out 0; have hcyd_1 : w7.cell? ⟨gb6, 1, none⟩ = some (.slice none 0 0) := zc BK6 1; have hfyd_1 := blk_frozen BK6.out 1; have hcyd_2 : w7.cell? ⟨gb6, 2, none⟩ = some (.slice none 0 0) := zc BK6 2; have hfyd_2 := blk_frozen BK6.out 2))
                refine bodyPost_ret (results_ct rfl _ _ gb6 27 #[.int .i64 K, .slice o1 L.length e1, .slice o2 H.length e2] (0, 0) _ rfl (by exact blk_put (cs := #[.int .i64 K, .slice o1 L.length e1, .slice none 0 0]) (blk_put (cs := #[.int .i64 K, .slice none 0 0, .slice none 0 0]) (blk_put (cs := #[.int .i64 0, .slice none 0 0, .slice none 0 0]) BK6.out 0 _ rfl) 1 _ rfl) 2 _ rfl) Try.underlying27 rfl (by kernel_rfl)) rfl ?_
                exact ⟨_, _, by first | rfl | (simp; done) | (simp [*]; done), (by (with_reducible repeat (first | apply Kd.R_alloc | apply Kd.R_drewN | apply Kd.R_drew)); exact Kd.R_mono (Kd.R_far (p := ⟨gb6, 2, none⟩) (Kd.R_far (p := ⟨gb6, 1, none⟩) (Kd.R_far (p := ⟨gb6, 0, none⟩) (Kd.R_types HO1.out BK6.out (by decide)) (fun _ hk => hk.2) (.int .i64 K)) (fun _ hk => hk.2) (.slice o1 L.length e1)) (fun _ hk => hk.2) (.slice o2 H.length e2)) (fun _ hk => hk.1)), (by (with_reducible repeat (first | apply Kd.R_alloc | apply Kd.R_drewN | apply Kd.R_drew)); exact Kd.R_mono (Kd.R_far (p := ⟨gb6, 2, none⟩) (Kd.R_far (p := ⟨gb6, 1, none⟩) (Kd.R_far (p := ⟨gb6, 0, none⟩) (Kd.R_types HO2.out BK6.out (by decide)) (fun _ hk => hk.2) (.int .i64 K)) (fun _ hk => hk.2) (.slice o1 L.length e1)) (fun _ hk => hk.2) (.slice o2 H.length e2)) (fun _ hk => hk.1)), (zb1 HB)⟩
            · rw [if_neg ct] at h
              obtain ⟨X, hX0, h⟩ := Option.bind_eq_some_iff.mp h
              obtain ⟨Y, hY0, h⟩ := Option.bind_eq_some_iff.mp h
              have HX0 := Aside0.mk hX0
              have HY0 := Aside0.mk hY0
              have H' := Aside0.mk h
              have ctb := decide_eq_false ct
              clear hX0 hY0 h ct cK
              go_wp2_with (first | (go_at_call 75; refine (impl_boxOf.concat wr.heap.size _ e1 L _ e2 H _ (by exact blk_new wr _) (Kd.C_alloc (Kd.R_reads' HO1.out).2.2 _) (Kd.C_alloc (Kd.R_reads' HO2.out).2.2 _) LN.out).mono ?_; rintro e w5 ⟨v5, rfl, ho, hb⟩; rw [← NM.out] at ho; obtain ⟨o5, e5, eo5⟩ := Kd.R_slice ho; subst eo5; have HX := Aside0.mk (Kd.R_reads' ho).2.2; clear ho; replace HO1 := Aside0.mk (Kd.R_below (zq3 HO1) hb); replace HO2 := Aside0.mk (Kd.R_below (zq3 HO2) hb); replace BK6 := Aside0.mk (zbb BK6 hb); replace BK8 := Aside0.mk (zbb BK8 hb); replace HB := Aside0.mk (below_step (zb1 HB) hb); clear hb; have hnbb := NB86.out; have hncb := NB68.out; have hczb_0 : w5.cell? ⟨gb8, 0, none⟩ = some (.int .i64 K) := zc BK8 0; have hfzb_0 := blk_frozen BK8.out 0; have hczb_1 : w5.cell? ⟨gb8, 1, none⟩ = some (.slice o1 L.length e1) := zc BK8 1; have hfzb_1 := blk_frozen BK8.out 1; have hczb_2 : w5.cell? ⟨gb8, 2, none⟩ = some (.slice o2 H.length e2) := zc BK8 2; have hfzb_2 := blk_frozen BK8.out 2) | (go_at_call 74; refine (impl_boxOf.cont k1 _ _ M t _ HX.out hI.out).mono ?_; rintro e w6 ⟨rfl, hb⟩; replace HO1 := Aside0.mk (Kd.R_below (zq3 HO1) hb); replace HO2 := Aside0.mk (Kd.R_below (zq3 HO2) hb); replace BK6 := Aside0.mk (zbb BK6 hb); replace BK8 := Aside0.mk (zbb BK8 hb); replace HB := Aside0.mk (below_step (zb1 HB) hb); clear hb; have hnbc := NB86.out; have hncc := NB68.out; have hczc_0 : w6.cell? ⟨gb8, 0, none⟩ = some (.int .i64 K) := zc BK8 0; have hfzc_0 := blk_frozen BK8.out 0; have hczc_1 : w6.cell? ⟨gb8, 1, none⟩ = some (.slice o1 L.length e1) := zc BK8 1; have hfzc_1 := blk_frozen BK8.out 1; have hczc_2 : w6.cell? ⟨gb8, 2, none⟩ = some (.slice o2 H.length e2) := zc BK8 2; have hfzc_2 := blk_frozen BK8.out 2) | ((with_reducible refine gate_dst (N := 39) rfl ?_); refine zbs (N := 39) (cs := #[.slice o1 L.length e1, .slice o2 H.length e2]) (t := 22) (n := 2) ?_; intro gt hg wt hbox hb; have BX8 := blk_put (cs := #[.int .i64 K, .slice o1 L.length e1, .slice o2 H.length e2]) BK8.out 0 (.int .i64 (wrap64 (K - 1))) rfl; have BX6 := blk_far (p := ⟨gb8, 0, none⟩) BK6.out NB68.out (.int .i64 (wrap64 (K - 1))); have HX1 := Kd.R_mono (ok' := fun k_ => some k_ ≠ ((.slice o2 H.length e2) : Value).ownBlock) (Kd.R_far (p := ⟨gb8, 0, none⟩) (Kd.R_types HO1.out BK8.out (by decide)) (fun _ hk => hk.2) (.int .i64 (wrap64 (K - 1)))) (fun _ hk => hk.1); have HX2 := Kd.R_mono (ok' := fun k_ => some k_ ≠ ((.slice o1 L.length e1) : Value).ownBlock) (Kd.R_far (p := ⟨gb8, 0, none⟩) (Kd.R_types HO2.out BK8.out (by decide)) (fun _ hk => hk.2) (.int .i64 (wrap64 (K - 1)))) (fun _ hk => hk.1); have HBX : Below w.heap.size w wt := below_step (zb1 HB) hb; replace BX8 := blk_below BX8 hb; replace BX6 := blk_below BX6 hb; replace HX1 := Kd.R_below HX1 hb; replace HX2 := Kd.R_below HX2 hb; clear HB BK8 BK6 HO1 HO2 hb hg hczc_0 hczc_1 hczc_2 hfzc_0 hfzc_1 hfzc_2 hczb_0 hczb_1 hczb_2 hfzb_0 hfzb_1 hfzb_2; have HB := Aside0.mk HBX; have BK8 := Aside0.mk BX8; have BK6 := Aside0.mk BX6; have HO1 := Aside0.mk HX1; have HO2 := Aside0.mk HX2; have BKT := Aside0.mk hbox; clear HBX BX8 BX6 HX1 HX2 hbox))
              go_loopg [41] 2 (fun kq v41 w' => ∃ (x y : List Int), Aside0 ((kq = 2 ∧ v41 = .int .i64 0 ∧ L = x ∧ H = y) ∨ (kq = 1 ∧ v41 = .int .i64 1 ∧ X = x ∧ H = y) ∨ (kq = 0 ∧ v41 = .int .i64 2 ∧ X = x ∧ Y = y)) ∧ Aside0 (Kd.R (Kd.int .i64) 3 w' w.heap.size (fun k_ => some k_ ≠ ((.slice o2 H.length e2) : Value).ownBlock) (.slice o1 L.length e1) x) ∧ Aside0 (Kd.R (Kd.int .i64) 3 w' w.heap.size (fun k_ => some k_ ≠ ((.slice o1 L.length e1) : Value).ownBlock) (.slice o2 H.length e2) y) ∧ Aside0 (w'.heap[gb6]? = some (.cells #[.int .i64 0, .slice none 0 0, .slice none 0 0] 27 (0, 0))) ∧ Aside0 (w'.heap[gb8]? = some (.cells #[.int .i64 (wrap64 (K - 1)), (.slice o1 L.length e1), (.slice o2 H.length e2)] 27 (0, 0))) ∧ Aside0 (w'.heap[gt]? = some (.cells #[(.slice o1 L.length e1), (.slice o2 H.length e2)] 22 (0, 0))) ∧ Aside0 (Below w.heap.size w w'))
              case atStart => exact ⟨L, H, ⟨.inl ⟨rfl, by first | rfl | (simp; done) | (simp [*]; done), rfl, rfl⟩⟩, ⟨Kd.R_mono (zq3 HO1) (fun _ hk => by first | exact hk | exact hk.2)⟩, ⟨Kd.R_mono (zq3 HO2) (fun _ hk => by first | exact hk | exact hk.2)⟩, ⟨zq1 BK6⟩, ⟨zq1 BK8⟩, ⟨zq1 BKT⟩, ⟨(zb1 HB)⟩⟩
              case round =>
                clear HO1 HO2 BK6 BK8 BKT HB
                obtain ⟨x, y, ⟨hx⟩, HO1, HO2, BK6, BK8, BKT, HB⟩ := hrel
                have hdT0 : wr.cell? ⟨gt, 0, none⟩ = some (.slice o1 L.length e1) := zc BKT 0
                have hdT1 : wr.cell? ⟨gt, 1, none⟩ = some (.slice o2 H.length e2) := zc BKT 1
                rcases hx with ⟨rfl, rfl, rfl, rfl⟩ | ⟨rfl, rfl, rfl, rfl⟩ | ⟨rfl, rfl, rfl, rfl⟩
                ·
                  go_wp2
                  go_loopg [47] k1 (fun kq v47 w' => ∃ (i : Int) (x_ : List Int), v47 = .int .i64 i ∧ Aside0 (impl_boxOf.hv kq (L.length : Int) x_ i = some X) ∧ Aside0 (Kd.R (Kd.int .i64) 3 w' w.heap.size (fun k_ => some k_ ≠ ((.slice o2 H.length e2) : Value).ownBlock) (.slice o1 L.length e1) x_) ∧ Aside0 (Kd.R (Kd.int .i64) 3 w' w.heap.size (fun k_ => some k_ ≠ ((.slice o1 L.length e1) : Value).ownBlock) (.slice o2 H.length e2) H) ∧ Aside0 (w'.heap[gb6]? = some (.cells #[.int .i64 0, .slice none 0 0, .slice none 0 0] 27 (0, 0))) ∧ Aside0 (w'.heap[gb8]? = some (.cells #[.int .i64 (wrap64 (K - 1)), (.slice o1 L.length e1), (.slice o2 H.length e2)] 27 (0, 0))) ∧ Aside0 (w'.heap[gt]? = some (.cells #[(.slice o1 L.length e1), (.slice o2 H.length e2)] 22 (0, 0))) ∧ Aside0 (Below w.heap.size w w'))
                  case atStart => exact ⟨0, _, (by first | rfl | (simp; done) | (simp [*]; done)), HX0, ⟨Kd.R_mono (zq3 HO1) (fun _ hk => by first | exact hk | exact hk.2)⟩, ⟨Kd.R_mono (zq3 HO2) (fun _ hk => by first | exact hk | exact hk.2)⟩, ⟨zq1 BK6⟩, ⟨zq1 BK8⟩, ⟨zq1 BKT⟩, ⟨(zb1 HB)⟩⟩
                  case round =>
                    clear hdT0 hdT1 HO1 HO2 BK6 BK8 BKT HB
                    obtain ⟨i, x_, rfl, HA, HO1, HO2, BK6, BK8, BKT, HB⟩ := hrel
                    cases gk with
                    | zero => exact absurd HA.out (by simp [impl_boxOf.hv])
                    | succ k2 =>
                      have h := HA.out
                      clear HA
                      simp only [impl_boxOf.hv] at h
                      by_cases ci : i < (L.length : Int)
                      · rw [if_pos ci] at h
                        by_cases c0 : 0 ≤ i
                        · rw [if_pos c0] at h
                          by_cases cx : i < (x_.length : Int)
                          · rw [if_pos cx] at h
                            obtain ⟨y_, hy⟩ : ∃ y_ : List Int, y_ = x_.set (i : Int).toNat (wrap64 (Int.tdiv (rd x_ i) 2)) := ⟨_, rfl⟩
                            rw [← hy] at h
                            have NY := Aside0.mk hy
                            have HA := Aside0.mk h
                            have cib := decide_eq_true ci
                            have c0b := decide_eq_true c0
                            clear hy h
                            obtain ⟨ad, ead, hx0⟩ := Kd.at_int (Kd.R_reads' HO1.out).2.2 i c0 cx
                            cases ead
                            obtain ⟨go, co, eo, gb, gl, cl, HG⟩ := Kd.R_form HO1.out (by omega)
                            injection eo with ea_ en_ ec_
                            injection ea_ with ea_
                            subst ea_
                            subst ec_
                            clear en_ gl HG
                            have GB := Aside0.mk gb
                            simp only [add_plain] at hx0
                            obtain ⟨hx1, hf1⟩ := Kd.R_celln 0 HO1.out (i : Int) c0 ci
                            have p1 := eq_true c0
                            have p2 := eq_true ci
                            have HP := Kd.R_putg HO1.out (i : Int) (wrap64 (Int.tdiv (rd x_ i) 2))
                            clear ci c0 cx gb
                            go_wp2_with ((with_reducible refine gate_store (t := 3) (p := 55) rfl ?_); refine store_event (t := 3) (p := 55) (v := ?vo) (w1 := (wr.setCell ⟨go, (i : Int).toNat, none⟩ (.int .i64 (wrap64 (Int.tdiv (rd x_ i) 2))))) ?hg ?ho ?hn ?hr ?_; (case ho => rfl); (case hg => rfl); (case hn => rfl); (case hr => first | (go_simp; done) | (go_simp; rfl)); intro w9 hw; have hg : wr.grownBy w9 (some go) := (by rw [hw]; exact HP.2); have hp_ := HP.1; rw [← hw, ← NY.out] at hp_; clear HP; replace HO2 := Aside0.mk (Kd.R_after (v := (.slice (some ⟨go, 0, none⟩) L.length e1)) (v1 := (.slice (some ⟨go, 0, none⟩) L.length e1)) (ok := (fun _ => True)) (Kd.R_mono HO2.out (fun _ hk => ⟨trivial, hk⟩)) hg (.inl rfl)); replace BK6 := Aside0.mk (blk_grown (zq1 BK6) hg (Kd.R_ne HO1.out BK6.out (by decide))); replace BK8 := Aside0.mk (blk_grown (zq1 BK8) hg (Kd.R_ne HO1.out BK8.out (by decide))); replace BKT := Aside0.mk (blk_grown (zq1 BKT) hg (Kd.R_ne HO1.out BKT.out (by decide))); replace HO1 := Aside0.mk hp_; replace HB := Aside0.mk ((by rw [hw]; exact below_set (HB.out) GB.out : Below w.heap.size w w9)); clear hg hw hp_)
                            go_roundg k2
                            case measure => omega
                            case rel => exact ⟨(wrap64 (i + 1)), y_, (by first | rfl | (simp; done) | (simp [*]; done)), HA, ⟨Kd.R_mono (zq3 HO1) (fun _ hk => by first | exact hk | exact hk.2)⟩, ⟨Kd.R_mono (zq3 HO2) (fun _ hk => by first | exact hk | exact hk.2)⟩, ⟨zq1 BK6⟩, ⟨zq1 BK8⟩, ⟨zq1 BKT⟩, ⟨(zb1 HB)⟩⟩
                          · rw [if_neg cx] at h; cases h
                        · rw [if_neg c0] at h; cases h
                      · rw [if_neg ci] at h
                        obtain rfl := Option.some.inj h
                        have cib := decide_eq_false ci
                        clear ci h
                        go_wp2
                        go_roundg 1
                        case measure => decide
                        case rel => exact ⟨_, _, ⟨.inr (.inl ⟨rfl, by first | rfl | (simp; done) | (simp [*]; done), rfl, rfl⟩)⟩, ⟨Kd.R_mono (zq3 HO1) (fun _ hk => by first | exact hk | exact hk.2)⟩, ⟨Kd.R_mono (zq3 HO2) (fun _ hk => by first | exact hk | exact hk.2)⟩, ⟨zq1 BK6⟩, ⟨zq1 BK8⟩, ⟨zq1 BKT⟩, ⟨(zb1 HB)⟩⟩
                ·
                  go_wp2
                  go_loopg [47] k1 (fun kq v47 w' => ∃ (i : Int) (x_ : List Int), v47 = .int .i64 i ∧ Aside0 (impl_boxOf.hv kq (H.length : Int) x_ i = some Y) ∧ Aside0 (Kd.R (Kd.int .i64) 3 w' w.heap.size (fun k_ => some k_ ≠ ((.slice o2 H.length e2) : Value).ownBlock) (.slice o1 L.length e1) X) ∧ Aside0 (Kd.R (Kd.int .i64) 3 w' w.heap.size (fun k_ => some k_ ≠ ((.slice o1 L.length e1) : Value).ownBlock) (.slice o2 H.length e2) x_) ∧ Aside0 (w'.heap[gb6]? = some (.cells #[.int .i64 0, .slice none 0 0, .slice none 0 0] 27 (0, 0))) ∧ Aside0 (w'.heap[gb8]? = some (.cells #[.int .i64 (wrap64 (K - 1)), (.slice o1 L.length e1), (.slice o2 H.length e2)] 27 (0, 0))) ∧ Aside0 (w'.heap[gt]? = some (.cells #[(.slice o1 L.length e1), (.slice o2 H.length e2)] 22 (0, 0))) ∧ Aside0 (Below w.heap.size w w'))
                  case atStart => exact ⟨0, _, (by first | rfl | (simp; done) | (simp [*]; done)), HY0, ⟨Kd.R_mono (zq3 HO1) (fun _ hk => by first | exact hk | exact hk.2)⟩, ⟨Kd.R_mono (zq3 HO2) (fun _ hk => by first | exact hk | exact hk.2)⟩, ⟨zq1 BK6⟩, ⟨zq1 BK8⟩, ⟨zq1 BKT⟩, ⟨(zb1 HB)⟩⟩
                  case round =>
                    clear hdT0 hdT1 HO1 HO2 BK6 BK8 BKT HB
                    obtain ⟨i, x_, rfl, HA, HO1, HO2, BK6, BK8, BKT, HB⟩ := hrel
                    cases gk with
                    | zero => exact absurd HA.out (by simp [impl_boxOf.hv])
                    | succ k2 =>
                      have h := HA.out
                      clear HA
                      simp only [impl_boxOf.hv] at h
                      by_cases ci : i < (H.length : Int)
                      · rw [if_pos ci] at h
                        by_cases c0 : 0 ≤ i
                        · rw [if_pos c0] at h
                          by_cases cx : i < (x_.length : Int)
                          · rw [if_pos cx] at h
                            obtain ⟨y_, hy⟩ : ∃ y_ : List Int, y_ = x_.set (i : Int).toNat (wrap64 (Int.tdiv (rd x_ i) 2)) := ⟨_, rfl⟩
                            rw [← hy] at h
                            have NY := Aside0.mk hy
                            have HA := Aside0.mk h
                            have cib := decide_eq_true ci
                            have c0b := decide_eq_true c0
                            clear hy h
                            obtain ⟨ad, ead, hx0⟩ := Kd.at_int (Kd.R_reads' HO2.out).2.2 i c0 cx
                            cases ead
                            obtain ⟨go, co, eo, gb, gl, cl, HG⟩ := Kd.R_form HO2.out (by omega)
                            injection eo with ea_ en_ ec_
                            injection ea_ with ea_
                            subst ea_
                            subst ec_
                            clear en_ gl HG
                            have GB := Aside0.mk gb
                            simp only [add_plain] at hx0
                            obtain ⟨hx1, hf1⟩ := Kd.R_celln 0 HO2.out (i : Int) c0 ci
                            have p1 := eq_true c0
                            have p2 := eq_true ci
                            have HP := Kd.R_putg HO2.out (i : Int) (wrap64 (Int.tdiv (rd x_ i) 2))
                            clear ci c0 cx gb
                            go_wp2_with ((with_reducible refine gate_store (t := 3) (p := 55) rfl ?_); refine store_event (t := 3) (p := 55) (v := ?vo) (w1 := (wr.setCell ⟨go, (i : Int).toNat, none⟩ (.int .i64 (wrap64 (Int.tdiv (rd x_ i) 2))))) ?hg ?ho ?hn ?hr ?_; (case ho => rfl); (case hg => rfl); (case hn => rfl); (case hr => first | (go_simp; done) | (go_simp; rfl)); intro w9 hw; have hg : wr.grownBy w9 (some go) := (by rw [hw]; exact HP.2); have hp_ := HP.1; rw [← hw, ← NY.out] at hp_; clear HP; replace HO1 := Aside0.mk (Kd.R_after (v := (.slice (some ⟨go, 0, none⟩) H.length e2)) (v1 := (.slice (some ⟨go, 0, none⟩) H.length e2)) (ok := (fun _ => True)) (Kd.R_mono HO1.out (fun _ hk => ⟨trivial, hk⟩)) hg (.inl rfl)); replace BK6 := Aside0.mk (blk_grown (zq1 BK6) hg (Kd.R_ne HO2.out BK6.out (by decide))); replace BK8 := Aside0.mk (blk_grown (zq1 BK8) hg (Kd.R_ne HO2.out BK8.out (by decide))); replace BKT := Aside0.mk (blk_grown (zq1 BKT) hg (Kd.R_ne HO2.out BKT.out (by decide))); replace HO2 := Aside0.mk hp_; replace HB := Aside0.mk ((by rw [hw]; exact below_set (HB.out) GB.out : Below w.heap.size w w9)); clear hg hw hp_)
                            go_roundg k2
                            case measure => omega
                            case rel => exact ⟨(wrap64 (i + 1)), y_, (by first | rfl | (simp; done) | (simp [*]; done)), HA, ⟨Kd.R_mono (zq3 HO1) (fun _ hk => by first | exact hk | exact hk.2)⟩, ⟨Kd.R_mono (zq3 HO2) (fun _ hk => by first | exact hk | exact hk.2)⟩, ⟨zq1 BK6⟩, ⟨zq1 BK8⟩, ⟨zq1 BKT⟩, ⟨(zb1 HB)⟩⟩
                          · rw [if_neg cx] at h; cases h
                        · rw [if_neg c0] at h; cases h
                      · rw [if_neg ci] at h
                        obtain rfl := Option.some.inj h
                        have cib := decide_eq_false ci
                        clear ci h
                        go_wp2
                        go_roundg 0
                        case measure => decide
                        case rel => exact ⟨_, _, ⟨.inr (.inr ⟨rfl, by first | rfl | (simp; done) | (simp [*]; done), rfl, rfl⟩)⟩, ⟨Kd.R_mono (zq3 HO1) (fun _ hk => by first | exact hk | exact hk.2)⟩, ⟨Kd.R_mono (zq3 HO2) (fun _ hk => by first | exact hk | exact hk.2)⟩, ⟨zq1 BK6⟩, ⟨zq1 BK8⟩, ⟨zq1 BKT⟩, ⟨(zb1 HB)⟩⟩
                · go_wp2
                  go_roundg k1
                  case measure => omega
                  case rel => exact ⟨(wrap64 (K - 1)), X, Y, (.slice o1 L.length e1), (.slice o2 H.length e2), H', ⟨by have := HK1.out; omega⟩, ⟨zq3 HO1⟩, ⟨zq3 HO2⟩, ⟨zq1 BK6⟩, ⟨zq1 BK8⟩, ⟨(zb1 HB)⟩⟩
          · rw [if_neg cl] at h; cases h
        · rw [if_neg cK] at h
          have cKb : decide (K > 0) = false := decide_eq_false cK
          have cKb' : decide (0 < K) = false := decide_eq_false cK
          clear cK
          unfold impl_boxOf.fin at h
          obtain ⟨⟨b1, p2⟩, hA0, h⟩ := Option.bind_eq_some_iff.mp h
          have hA := Aside0.mk hA0
          clear hA0
          cases b1
          · rw [if_neg Bool.false_ne_true] at h
            simp only [Option.some.injEq, Prod.mk.injEq] at h
            obtain ⟨rfl, rfl, rfl, rfl⟩ := h
            go_wp2_with (first | (go_at_call 57; refine (impl_isBox.reads k1 gb8 K _ e1 L _ e2 H false p2 _ (zq1 BK8) (Kd.R_reads' (zq3 HO1 : Kd.R (Kd.int .i64) 3 _ _ _ _ _)).2.2 (Kd.R_reads' (zq3 HO2 : Kd.R (Kd.int .i64) 3 _ _ _ _ _)).2.2 hA.out).mono ?_; rintro e w7 ⟨rfl, hb⟩; replace HO1 := Aside0.mk (Kd.R_below (zq3 HO1) hb); replace HO2 := Aside0.mk (Kd.R_below (zq3 HO2) hb); replace BK6 := Aside0.mk (zbb BK6 hb); replace BK8 := Aside0.mk (zbb BK8 hb); replace HB := Aside0.mk (below_step (zb1 HB) hb); clear hb; have hnbd := NB86.out; have hncd := NB68.out; have hczd_0 : w7.cell? ⟨gb8, 0, none⟩ = some (.int .i64 K) := zc BK8 0; have hfzd_0 := blk_frozen BK8.out 0; have hczd_1 : w7.cell? ⟨gb8, 1, none⟩ = some (.slice o1 L.length e1) := zc BK8 1; have hfzd_1 := blk_frozen BK8.out 1; have hczd_2 : w7.cell? ⟨gb8, 2, none⟩ = some (.slice o2 H.length e2) := zc BK8 2; have hfzd_2 := blk_frozen BK8.out 2; have hcyd_0 : w7.cell? ⟨gb6, 0, none⟩ = some (.int .i64 0) := zc BK6 0; have hfyd_0 := blk_frozen BK6.out 0; have hcyd_1 : w7.cell? ⟨gb6, 1, none⟩ = some (.slice none 0 0) := zc BK6 1; have hfyd_1 := blk_frozen BK6.out 1; have hcyd_2 : w7.cell? ⟨gb6, 2, none⟩ = some (.slice none 0 0) := zc BK6 2; have hfyd_2 := blk_frozen BK6.out 2))
            refine bodyPost_ret (results_ct rfl _ _ gb6 27 #[.int .i64 0, .slice none 0 0, .slice none 0 0] (0, 0) _ rfl (by exact blk_put (cs := #[.int .i64 0, .slice none 0 0, .slice none 0 0]) (blk_put (cs := #[.int .i64 0, .slice none 0 0, .slice none 0 0]) (blk_put (cs := #[.int .i64 0, .slice none 0 0, .slice none 0 0]) BK6.out 0 _ rfl) 1 _ rfl) 2 _ rfl) Try.underlying27 rfl (by kernel_rfl)) rfl ?_
            exact ⟨_, _, by first | rfl | (simp; done) | (simp [*]; done), Kd.R_nil _ _ _ _ _, Kd.R_nil _ _ _ _ _, (zb1 HB)⟩
          · rw [if_pos rfl] at h
            simp only [Option.some.injEq, Prod.mk.injEq] at h
            obtain ⟨rfl, rfl, rfl, rfl⟩ := h
            go_wp2_with (first | (go_at_call 57; refine (impl_isBox.reads k1 gb8 K _ e1 L _ e2 H true p2 _ (zq1 BK8) (Kd.R_reads' (zq3 HO1 : Kd.R (Kd.int .i64) 3 _ _ _ _ _)).2.2 (Kd.R_reads' (zq3 HO2 : Kd.R (Kd.int .i64) 3 _ _ _ _ _)).2.2 hA.out).mono ?_; rintro e w7 ⟨rfl, hb⟩; replace HO1 := Aside0.mk (Kd.R_below (zq3 HO1) hb); replace HO2 := Aside0.mk (Kd.R_below (zq3 HO2) hb); replace BK6 := Aside0.mk (zbb BK6 hb); replace BK8 := Aside0.mk (zbb BK8 hb); replace HB := Aside0.mk (below_step (zb1 HB) hb); clear hb; have hnbd := NB86.out; have hncd := NB68.out; have hczd_0 : w7.cell? ⟨gb8, 0, none⟩ = some (.int .i64 K) := zc BK8 0; have hfzd_0 := blk_frozen BK8.out 0; have hczd_1 : w7.cell? ⟨gb8, 1, none⟩ = some (.slice o1 L.length e1) := zc BK8 1; have hfzd_1 := blk_frozen BK8.out 1; have hczd_2 : w7.cell? ⟨gb8, 2, none⟩ = some (.slice o2 H.length e2) := zc BK8 2; have hfzd_2 := blk_frozen BK8.out 2; have hcyd_0 : w7.cell? ⟨gb6, 0, none⟩ = some (.int .i64 0) := zc BK6 0; have hfyd_0 := blk_frozen BK6.out 0; have hcyd_1 : w7.cell? ⟨gb6, 1, none⟩ = some (.slice none 0 0) := zc BK6 1; have hfyd_1 := blk_frozen BK6.out 1; have hcyd_2 : w7.cell? ⟨gb6, 2, none⟩ = some (.slice none 0 0) := zc BK6 2; have hfyd_2 := blk_frozen BK6.out 2))
            refine bodyPost_ret (results_ct rfl _ _ gb6 27 #[.int .i64 K, .slice o1 L.length e1, .slice o2 H.length e2] (0, 0) _ rfl (by exact blk_put (cs := #[.int .i64 K, .slice o1 L.length e1, .slice none 0 0]) (blk_put (cs := #[.int .i64 K, .slice none 0 0, .slice none 0 0]) (blk_put (cs := #[.int .i64 0, .slice none 0 0, .slice none 0 0]) BK6.out 0 _ rfl) 1 _ rfl) 2 _ rfl) Try.underlying27 rfl (by kernel_rfl)) rfl ?_
            exact ⟨_, _, by first | rfl | (simp; done) | (simp [*]; done), (by (with_reducible repeat (first | apply Kd.R_alloc | apply Kd.R_drewN | apply Kd.R_drew)); exact Kd.R_mono (Kd.R_far (p := ⟨gb6, 2, none⟩) (Kd.R_far (p := ⟨gb6, 1, none⟩) (Kd.R_far (p := ⟨gb6, 0, none⟩) (Kd.R_types HO1.out BK6.out (by decide)) (fun _ hk => hk.2) (.int .i64 K)) (fun _ hk => hk.2) (.slice o1 L.length e1)) (fun _ hk => hk.2) (.slice o2 H.length e2)) (fun _ hk => hk.1)), (by (with_reducible repeat (first | apply Kd.R_alloc | apply Kd.R_drewN | apply Kd.R_drew)); exact Kd.R_mono (Kd.R_far (p := ⟨gb6, 2, none⟩) (Kd.R_far (p := ⟨gb6, 1, none⟩) (Kd.R_far (p := ⟨gb6, 0, none⟩) (Kd.R_types HO2.out BK6.out (by decide)) (fun _ hk => hk.2) (.int .i64 K)) (fun _ hk => hk.2) (.slice o1 L.length e1)) (fun _ hk => hk.2) (.slice o2 H.length e2)) (fun _ hk => hk.1)), (zb1 HB)⟩
  · rw [if_neg hl] at h; cases h
end Go.Proofs.Ytgaoniapddpaaaa.PD
