-- By wip/mk/drv.py
import Derived.Test.YtgaoniapddpaaaaQCornOfPDx0
import Derived.Test.YtgaoniapddpaaaaQCornOfPDx1
import Derived.Test.YtgaoniapddpaaaaQCornOfPDx17
namespace Go.Proofs.Ytgaoniapddpaaaa.PD
open Go.RowKit Go.Proofs.YtgaoniapddpaaaaW.PrintWords Go.Proofs.YtgaoniapddpaaaaW.PrintLast Go.Proofs.YtgaoniapddpaaaaW.PrintMore
attribute [local go_sem] max2_int min2_int max_two min_two max_three min_three max_four min_four
set_option linter.unusedVariables false
set_option linter.unusedSimpArgs false
/-! ### spec_bxCorners: function 85 -/
def spec_bxCorners.T4 : Bool × List (List Nat × List Nat) := (true, [([], []), ([0], [0]), ([], []), ([1, 2], [1, 2]), ([3], [3]), ([], []), ([5], [5]), ([], []), ([6, 7], [6, 7]), ([8], [8]), ([4, 9], [4, 9]), ([10], [10]), ([], [])])
def spec_bxCorners.B4 : List Nat := [0, 1, 0, 7, 15, 0, 32, 0, 224, 480, 1023, 2047, 0]
theorem spec_bxCorners.tab4 : rtab .any (opsOf Try.f85 4) = spec_bxCorners.T4 := by kernel_rfl
theorem spec_bxCorners.bits4 : waitsOk spec_bxCorners.T4.2 spec_bxCorners.B4 = true := by kernel_rfl
set_option maxHeartbeats 8000000 in
set_option maxRecDepth 100000 in
theorem spec_bxCorners.calls (k : Nat) : ∀ (a0_0 : Int) (A0_1 : Option Addr) (c0_1 : Nat) (l0_1 : List Int) (A0_2 : Option Addr) (c0_2 : Nat) (l0_2 : List Int) (a1 : Int) (r : List (List (S37))) (w : World) (hr0_1 : Kd.C (Kd.int .i64) w A0_1 l0_1.length l0_1) (hc0_1 : l0_1.length ≤ c0_1) (hr0_2 : Kd.C (Kd.int .i64) w A0_2 l0_2.length l0_2) (hc0_2 : l0_2.length ≤ c0_2) (h : spec_bxCorners.f k a0_0 l0_1 l0_2 a1 = some r),
  Calls Try.prog 85 #[.agg #[.int .i64 a0_0, .slice A0_1 l0_1.length c0_1, .slice A0_2 l0_2.length c0_2], .int .i64 a1] w fun e w' => ∃ v0_ : Value, e = .returned (v0_) ∧ Kd.S (Kd.slice 37 k37) 51 w' w.heap.size (fun _ => True) v0_ r ∧ Below w.heap.size w w' := by
 induction k using Nat.strongRecOn with
 | _ k ih =>
 intro a0_0 A0_1 c0_1 l0_1 A0_2 c0_2 l0_2 a1 r w hr0_1 hc0_1 hr0_2 hc0_2 h
 cases k with
 | zero => exact absurd h (by simp [spec_bxCorners.f])
 | succ k =>
 simp only [spec_bxCorners.f] at h
 have hu27 := Try.underlying27
 have HR0_1 := Aside0.mk hr0_1
 have HC0_1 := Aside0.mk hc0_1
 clear hr0_1 hc0_1
 have HR0_2 := Aside0.mk hr0_2
 have HC0_2 := Aside0.mk hc0_2
 clear hr0_2 hc0_2
 have HB := Aside0.mk (Below.refl w.heap.size w)
 have H : (if a1 = (l0_1.length : Int) then (some (([[]] : List (List (S37))))) else (if 0 ≤ a1 then (if a1 < (l0_1.length : Int) then (if a1 < (l0_2.length : Int) then ((some (([rd l0_1 a1, rd l0_2 a1] : List Int) : List Int)).bind fun y314 => (spec_bxCorners.l0 k a1 ([] : List (List (S37))) y314 (y314.length : Int) 0 a0_0 l0_1 l0_2)) else (none)) else (none)) else (none))) = some r := h
 clear h
 by_cases c3 : a1 = (l0_1.length : Int)
 ·
  rw [if_pos c3] at H
  have c3b0 : (a1 == (l0_1.length : Int)) = true := beq_iff_eq.mpr c3
  have c3b1 : (a1 != (l0_1.length : Int)) = false := bne_eq_false_iff_eq.mpr c3
  clear c3
  obtain ⟨y309, hy309⟩ : ∃ y_ : List (List (S37)), y_ = (([[]] : List (List (S37)))) := ⟨_, rfl⟩
  replace H : (some y309) = some r := by first | (rw [hy309]; with_reducible exact H) | (have H2_ := (Option.bind_some _ _).symm.trans H; rw [hy309]; with_reducible exact H2_) | (have H2_ := (Option.bind_some _ _).symm.trans H; with_reducible exact H2_) | with_reducible exact H | (rw [hy309]; exact H) | exact H
  have Ny309 := Aside0.mk hy309
  clear hy309
  obtain rfl := Option.some.inj H
  go_enter Try.func85, Try.ntmps85
  go_wp2_with (first | ((with_reducible refine gate_dst (N := 2) rfl ?_); refine zbe (N := 2) (cs := #[.int .i64 a0_0, .slice A0_1 l0_1.length c0_1, .slice A0_2 l0_2.length c0_2]) (t := 27) ?_; intro gb308 hg w4 hbox hb; have BK308 := Aside0.mk (hbox); have GW308 := Aside0.mk (zge (zb0 HB) hg); have GE308 := GW308; replace HB := Aside0.mk (below_step (zb0 HB) hb); clear hb hbox hg; have hcz5_0 : w4.cell? ⟨gb308, 0, none⟩ = some (.int .i64 a0_0) := zc BK308 0; have hcz5_1 : w4.cell? ⟨gb308, 1, none⟩ = some (.slice A0_1 l0_1.length c0_1) := zc BK308 1; have hcz5_2 : w4.cell? ⟨gb308, 2, none⟩ = some (.slice A0_2 l0_2.length c0_2) := zc BK308 2; have hfz5_0 := blk_frozen BK308.out 0; have hfz5_1 := blk_frozen BK308.out 1; have hfz5_2 := blk_frozen BK308.out 2) | ((with_reducible refine gate_dst (N := 15) rfl ?_); refine Kd.S_lit (Kd.slice 37 k37) _ 51 ?hg (N := 15) ?hd (xs := ([[]] : List (List (S37)))) (inner := [.slice none 0 0]) (ok := fun _ => True) (okp := fun _ => True) ?hr ?hp (fun _ hk => hk) trivial (Below.refl _ _) (Nat.le_refl _) (by simp) ?_; (case hd => rfl); (case hg => rfl); (case hr => first | (go_simp; done) | (go_simp; rfl)); (case hp => exact (Reps.one (show Kd.M (Kd.slice 37 k37) _ _ _ [] [.slice none 0 0] from ⟨_, rfl, Kd.R_nil _ _ _ _ _⟩) (Reps.none _ _))); intro v310 w6 ho7 hb hg_ hnew_; clear hg_ hnew_; (first | rw [← Ny309.out] at ho7 | (simp only [Int.reduceToNat] at ho7; rw [← Ny309.out] at ho7)); have HO311 := Aside0.mk (Kd.S_lower ho7 (below_size (zb1 HB))); replace BK308 := Aside0.mk (zbb BK308 hb); replace HB := Aside0.mk (below_step (zb1 HB) hb); clear hb ho7))
  go_ret
  exact ⟨_, by first | rfl | (simp [errW_none, errW_some] <;> rfl) | (simp [*, errW_none, errW_some] <;> rfl), by (with_reducible repeat (first | apply Kd.S_alloc | apply Kd.S_drewN | apply Kd.S_drew)); exact HO311.out, (zb1 HB)⟩
 ·
  rw [if_neg c3] at H
  have c3b0 : (a1 == (l0_1.length : Int)) = false := beq_eq_false_iff_ne.mpr c3
  have c3b1 : (a1 != (l0_1.length : Int)) = true := bne_iff_ne.mpr c3
  by_cases c8 : 0 ≤ a1
  ·
   rw [if_pos c8] at H
   have c8b0 : decide (0 ≤ a1) = true := decide_eq_true c8
   clear c8
   by_cases c9 : a1 < (l0_1.length : Int)
   ·
    rw [if_pos c9] at H
    have c9b0 : decide (a1 < (l0_1.length : Int)) = true := decide_eq_true c9
    clear c9
    by_cases c10 : a1 < (l0_2.length : Int)
    ·
     rw [if_pos c10] at H
     have c10b0 : decide (a1 < (l0_2.length : Int)) = true := decide_eq_true c10
     clear c10
     obtain ⟨y314, hy314⟩ : ∃ y_ : List Int, y_ = (([rd l0_1 a1, rd l0_2 a1] : List Int)) := ⟨_, rfl⟩
     replace H : (spec_bxCorners.l0 k a1 ([] : List (List (S37))) y314 (y314.length : Int) 0 a0_0 l0_1 l0_2) = some r := by first | (rw [hy314]; with_reducible exact H) | (have H2_ := (Option.bind_some _ _).symm.trans H; rw [hy314]; with_reducible exact H2_) | (have H2_ := (Option.bind_some _ _).symm.trans H; with_reducible exact H2_) | with_reducible exact H | (rw [hy314]; exact H) | exact H
     have Ny314 := Aside0.mk hy314
     clear hy314
     have H' := Aside0.mk H
     clear H
     go_enter Try.func85, Try.ntmps85
     try go_wp2_with (first | ((with_reducible refine gate_dst (N := 2) rfl ?_); refine zbe (N := 2) (cs := #[.int .i64 a0_0, .slice A0_1 l0_1.length c0_1, .slice A0_2 l0_2.length c0_2]) (t := 27) ?_; intro gb308 hg w11 hbox hb; have BK308 := Aside0.mk (hbox); have GW308 := Aside0.mk (zge (zb0 HB) hg); have GE308 := GW308; replace HB := Aside0.mk (below_step (zb0 HB) hb); clear hb hbox hg; have hcz12_0 : w11.cell? ⟨gb308, 0, none⟩ = some (.int .i64 a0_0) := zc BK308 0; have hcz12_1 : w11.cell? ⟨gb308, 1, none⟩ = some (.slice A0_1 l0_1.length c0_1) := zc BK308 1; have hcz12_2 : w11.cell? ⟨gb308, 2, none⟩ = some (.slice A0_2 l0_2.length c0_2) := zc BK308 2; have hfz12_0 := blk_frozen BK308.out 0; have hfz12_1 := blk_frozen BK308.out 1; have hfz12_2 := blk_frozen BK308.out 2))
     replace BK308 := Aside0.mk (blk_drew BK308.out); replace HB := Aside0.mk (below_drew1 HB.out)
     have p312 : 0 ≤ (a1 : Int) := of_decide_eq_true (by first | (with_reducible assumption) | assumption)
     have q312 : a1 < (l0_1.length : Int) := of_decide_eq_true (by first | (with_reducible assumption) | assumption)
     obtain ⟨ad312, e312, hx312_0⟩ := Kd.at_int HR0_1.out a1 p312 q312
     have hw312_0 := hx312_0
     cases e312
     replace hx312_0 := (HB.out.cell (World.block_lt_of_cell? w _ hx312_0)).trans hx312_0
     replace p312 := eq_true p312
     replace q312 := eq_true q312
     have p313 : 0 ≤ (a1 : Int) := of_decide_eq_true (by first | (with_reducible assumption) | assumption)
     have q313 : a1 < (l0_2.length : Int) := of_decide_eq_true (by first | (with_reducible assumption) | assumption)
     obtain ⟨ad313, e313, hx313_0⟩ := Kd.at_int HR0_2.out a1 p313 q313
     have hw313_0 := hx313_0
     cases e313
     replace hx313_0 := (HB.out.cell (World.block_lt_of_cell? w _ hx313_0)).trans hx313_0
     replace p313 := eq_true p313
     replace q313 := eq_true q313
     refine start_ (n := 13) (S := fun w' => w'.cell? ⟨gb308, 0, none⟩ = some (.int .i64 a0_0) ∧ w'.cell? ⟨gb308, 1, none⟩ = some (.slice (some ad312) l0_1.length c0_1) ∧ w'.cell? ⟨gb308, 2, none⟩ = some (.slice (some ad313) l0_2.length c0_2) ∧ w'.cell? (ad312.add (a1).toNat) = some (.int .i64 (rd l0_1 a1)) ∧ w'.cell? (ad313.add (a1).toNat) = some (.int .i64 (rd l0_2 a1))) (ds := []) #[false, false, false, false, false, false, false, false, false, false, false, false, false] (by kernel_rfl) rfl rfl ⟨zc BK308 0, zc BK308 1, zc BK308 2, ((HB.out.cell (World.block_lt_of_cell? w _ hw312_0)).trans hw312_0), ((HB.out.cell (World.block_lt_of_cell? w _ hw313_0)).trans hw313_0)⟩ (fun hHeld => ?_); refine with_tabW spec_bxCorners.tab4 spec_bxCorners.bits4 (fun HT_ HW_ => ?_)
     generalize w11.drew = w13 at BK308 HB hx312_0 hx313_0 hHeld ⊢
     refine zp (i := 0) (N := some 16) #[true, false, false, false, false, false, false, false, false, false, false, false, false] (any_of HT_.out (by kernel_rfl)) ?_
     refine zp (i := 2) (N := some 18) #[true, false, true, false, false, false, false, false, false, false, false, false, false] (any_of HT_.out (by kernel_rfl)) ?_
     refine zp (i := 5) (N := some 21) #[true, false, true, false, false, true, false, false, false, false, false, false, false] (any_of HT_.out (by kernel_rfl)) ?_
     refine zp (i := 7) (N := some 23) #[true, false, true, false, false, true, false, true, false, false, false, false, false] (any_of HT_.out (by kernel_rfl)) ?_
     refine zp (i := 12) (N := some 28) #[true, false, true, false, false, true, false, true, false, false, false, false, true] (any_of HT_.out (by kernel_rfl)) ?_
     refine take_ (i := 1) (N := some 17) (v := ?_) (a' := ?_) #[true, true, true, false, false, true, false, true, false, false, false, false, true] rfl rfl (take_ofW HT_.out HW_.out (by kernel_rfl)) (fun _ _ _ h => h) (Or.inl ⟨by rfl, ?_⟩) hHeld ?_ ?_
     rotate_left
     ·
      rintro w' ⟨s0, s1, s2, s3, s4⟩
      go_simp
      with_reducible rfl
     rotate_left
     ·
      simp only [Act.put, List.setIfInBounds_toArray, List.set_cons_zero, List.set_cons_succ, i64_w, i32_w]
      rfl
     refine zp (i := 3) (N := some 19) #[true, true, true, true, false, true, false, true, false, false, false, false, true] (any_of HT_.out (by kernel_rfl)) ?_
     refine take_ (i := 4) (N := some 20) (v := ?_) (a' := ?_) #[true, true, true, true, true, true, false, true, false, false, false, false, true] rfl rfl (take_ofW HT_.out HW_.out (by kernel_rfl)) (fun _ _ _ h => h) (Or.inl ⟨by rfl, ?_⟩) hHeld ?_ ?_
     rotate_left
     ·
      rintro w' ⟨s0, s1, s2, s3, s4⟩
      go_simp
      with_reducible rfl
     rotate_left
     ·
      simp only [Act.put, List.setIfInBounds_toArray, List.set_cons_zero, List.set_cons_succ, i64_w, i32_w]
      rfl
     refine take_ (i := 6) (N := some 22) (v := ?_) (a' := ?_) #[true, true, true, true, true, true, true, true, false, false, false, false, true] rfl rfl (take_ofW HT_.out HW_.out (by kernel_rfl)) (fun _ _ _ h => h) (Or.inl ⟨by rfl, ?_⟩) hHeld ?_ ?_
     rotate_left
     ·
      rintro w' ⟨s0, s1, s2, s3, s4⟩
      go_simp
      with_reducible rfl
     rotate_left
     ·
      simp only [Act.put, List.setIfInBounds_toArray, List.set_cons_zero, List.set_cons_succ, i64_w, i32_w]
      rfl
     refine zp (i := 8) (N := some 24) #[true, true, true, true, true, true, true, true, true, false, false, false, true] (any_of HT_.out (by kernel_rfl)) ?_
     refine take_ (i := 9) (N := some 25) (v := ?_) (a' := ?_) #[true, true, true, true, true, true, true, true, true, true, false, false, true] rfl rfl (take_ofW HT_.out HW_.out (by kernel_rfl)) (fun _ _ _ h => h) (Or.inl ⟨by rfl, ?_⟩) hHeld ?_ ?_
     rotate_left
     ·
      rintro w' ⟨s0, s1, s2, s3, s4⟩
      go_simp
      with_reducible rfl
     rotate_left
     ·
      simp only [Act.put, List.setIfInBounds_toArray, List.set_cons_zero, List.set_cons_succ, i64_w, i32_w]
      rfl
     refine one_ (i := 10) (N := some 26) #[true, true, true, true, true, true, true, true, true, true, true, false, true] rfl rfl (one_of HT_.out (by kernel_rfl)) (by decide) (fun K hK => ?_)
     refine Kd.R_lit_step (Kd.int .i64) _ 3 ?hg (N := 26) ?hd (xs := ([rd l0_1 a1, rd l0_2 a1] : List Int)) (inner := [.int .i64 (rd l0_1 a1), .int .i64 (rd l0_2 a1)]) (ok := fun _ => True) (okp := fun _ => True) ?hr ?hp (fun _ hk => hk) trivial (Below.refl _ _) (Nat.le_refl _) (by simp) ?_; (case hd => rfl); (case hg => rfl); (case hr => first | (go_simp; done) | (go_simp; rfl)); (case hp => exact (Reps.one (show Kd.M (Kd.int .i64) _ _ _ (rd l0_1 a1) [.int .i64 (rd l0_1 a1)] from rfl) (Reps.one (show Kd.M (Kd.int .i64) _ _ _ (rd l0_2 a1) [.int .i64 (rd l0_2 a1)] from rfl) (Reps.none _ _))))
     intro v315 w14 ho15 hb hg_ hnew_
     clear hg_ hnew_
     (first | rw [← Ny314.out] at ho15 | (simp only [Int.reduceToNat] at ho15; rw [← Ny314.out] at ho15))
     have HO316 := Aside0.mk (Kd.R_lower ho15 (below_size (zb1 HB)))
     have n1_ := Aside0.mk (zbb BK308 hb)
     have n2_ := Aside0.mk (below_step (zb1 HB) hb)
     clear BK308 HB
     have BK308 := n1_; have HB := n2_
     clear n1_ n2_ hb ho15
     obtain ⟨Ao16, co16, eo16⟩ := Kd.R_slice HO316.out
     (first | subst eo16 | (injection eo16 with f1_ f2_ f3_; have f4_ := f1_.symm; have f5_ := f3_.symm; clear f1_ f2_ f3_; subst f4_; subst f5_))
     refine hK.out _ _ ⟨zc BK308 0, zc BK308 1, zc BK308 2, ((HB.out.cell (World.block_lt_of_cell? w _ hw312_0)).trans hw312_0), ((HB.out.cell (World.block_lt_of_cell? w _ hw313_0)).trans hw313_0)⟩ (fun hHeld => ?_)
     clear hK K
     refine norm_ (a' := ?_) ?_ ?_
     rotate_left
     ·
      show Act.put _ (some 26) _ = _
      simp only [Act.put, List.setIfInBounds_toArray, List.set_cons_zero, List.set_cons_succ, i64_w, i32_w]; rfl
     refine zp (i := 11) (N := some 27) #[true, true, true, true, true, true, true, true, true, true, true, true, true] (any_of HT_.out (by kernel_rfl)) ?_
     refine done_ (done_of HT_.out (by kernel_rfl)) ?_
     try go_wp2
     go_loopg [5, 28] k (fun kq v5 v28 w' => ∃ (x5_1 : List (List (S37))) (x28_1 : Int), v28 = .int .i64 x28_1 ∧ Aside0 (spec_bxCorners.l0 kq a1 x5_1 y314 (y314.length : Int) x28_1 a0_0 l0_1 l0_2 = some r) ∧ Aside0 (kq ≤ k) ∧ Aside0 (Kd.S (Kd.slice 37 k37) 51 w' w.heap.size (fun _ => True) v5 x5_1) ∧ Aside0 (Kd.R (Kd.int .i64) 3 w' w.heap.size (fun _ => True) (.slice Ao16 y314.length co16) y314) ∧ Aside0 (w'.heap[gb308]? = some (.cells #[.int .i64 a0_0, (.slice (some ad312) l0_1.length c0_1), (.slice (some ad313) l0_2.length c0_2)] 27 (0, 0))) ∧ Aside0 (Below w.heap.size w w'))
     case atStart => exact ⟨(([] : List (List (S37)))), (0), (by first | rfl | (simp; done) | (simp [*]; done)), H', ⟨Nat.le_refl _⟩, ⟨by first | exact Kd.S_nil _ _ _ _ _ | exact Kd.N_nil _ _ _ _ _ | exact Kd.V_nil _ _ _ _ _ | exact Kd.Q_nil _ _ _ _ _ | exact Kd.R_nil _ _ _ _ _⟩, ⟨by (with_reducible repeat (first | apply Kd.R_alloc | apply Kd.R_drewN | apply Kd.R_drew)); exact HO316.out⟩, ⟨by (with_reducible repeat (first | refine blk_drewN ?_ _ | refine blk_drew ?_ | refine blk_alloc ?_ _)); exact BK308.out⟩, ⟨(zb1 HB)⟩⟩
     case round =>
      clear H'
      try clear c1
      try clear p2
      try clear c3
      try clear c3b0
      try clear c3b1
      try clear p3
      try clear q3
      try clear hx3
      try clear c8
      try clear c8b0
      try clear c9
      try clear c9b0
      try clear c10
      try clear c10b0
      try clear hcz12_0
      try clear hcz12_1
      try clear hcz12_2
      try clear hcz5_0
      try clear hcz5_1
      try clear hcz5_2
      try clear hfz12_0
      try clear hfz12_1
      try clear hfz12_2
      try clear hfz5_0
      try clear hfz5_1
      try clear hfz5_2
      try clear hx312_0
      try clear hx313_0
      try clear p312
      try clear p313
      try clear q312
      try clear q313
      obtain ⟨x5_1, x28_1, rfl, HA, HK1, HO_5, HO_26, BK308, HB⟩ := hrel
      cases gk with
      | zero => exact absurd HA.out (by simp [spec_bxCorners.l0])
      | succ k1 =>
       have H := HA.out
       clear HA
       simp only [spec_bxCorners.l0] at H
       by_cases c17 : x28_1 < (y314.length : Int)
       ·
        rw [if_pos c17] at H
        have c17b0 : decide (x28_1 < (y314.length : Int)) = true := decide_eq_true c17
        clear c17
        by_cases c18 : 0 ≤ x28_1
        ·
         rw [if_pos c18] at H
         have c18b0 : decide (0 ≤ x28_1) = true := decide_eq_true c18
         clear c18
         by_cases c19 : x28_1 < (y314.length : Int)
         ·
          rw [if_pos c19] at H
          have c19b0 : decide (x28_1 < (y314.length : Int)) = true := decide_eq_true c19
          clear c19
          replace H := Option.bind_eq_some_iff.mp H
          obtain ⟨t318, A200, H⟩ := H
          replace H : (spec_bxCorners.l1 k1 a1 x5_1 (rd y314 x28_1) y314 (y314.length : Int) x28_1 t318 (t318.length : Int) 0 a0_0 l0_1 l0_2) = some r := H
          have A20 := Aside0.mk A200
          clear A200
          have H' := Aside0.mk H
          clear H
          have p317 : 0 ≤ (x28_1 : Int) := of_decide_eq_true (by first | (with_reducible assumption) | assumption)
          have q317 : x28_1 < (y314.length : Int) := of_decide_eq_true (by first | (with_reducible assumption) | assumption)
          obtain ⟨ad317, e317, hx317_0⟩ := Kd.at_int (Kd.R_reads' HO_26.out).2.2 x28_1 p317 q317
          cases e317
          replace p317 := eq_true p317
          replace q317 := eq_true q317
          have hcz21_0 : wr.cell? ⟨gb308, 0, none⟩ = some (.int .i64 a0_0) := zc BK308 0
          have hcz21_1 : wr.cell? ⟨gb308, 1, none⟩ = some (.slice (some ad312) l0_1.length c0_1) := zc BK308 1
          have hcz21_2 : wr.cell? ⟨gb308, 2, none⟩ = some (.slice (some ad313) l0_2.length c0_2) := zc BK308 2
          have hfz21_0 := blk_frozen BK308.out 0
          have hfz21_1 := blk_frozen BK308.out 1
          have hfz21_2 := blk_frozen BK308.out 2
          go_wp2_with (first | ((with_reducible refine gate_callee (f := 85) rfl ?_); refine goesL_ (some 35) rfl rfl Try.func85 (by kernel_rfl) rfl #[.agg #[.int .i64 a0_0, .slice (some ad312) l0_1.length c0_1, .slice (some ad313) l0_2.length c0_2], .int .i64 (wrap64 (a1 + 1))] rfl zq6 ?_; (with_reducible refine (ih k1 (by have := HK1.out; omega) a0_0 _ _ l0_1 _ _ l0_2 (wrap64 (a1 + 1)) t318 _ ?side1 ?side2 ?side3 ?side4 A20.out).mono ?_); (case side1 => repeat (first | exact (Kd.C_below HR0_1.out HB.out) | (with_reducible refine Kd.C_alloc ?_ _) | (with_reducible refine Kd.C_drewN ?_ _) | (with_reducible refine Kd.C_drew ?_))); (case side2 => exact HC0_1.out); (case side3 => repeat (first | exact (Kd.C_below HR0_2.out HB.out) | (with_reducible refine Kd.C_alloc ?_ _) | (with_reducible refine Kd.C_drewN ?_ _) | (with_reducible refine Kd.C_drew ?_))); (case side4 => exact HC0_2.out); rintro e w22 ⟨v319, rfl, ho0, hb⟩; refine ⟨_, rfl, ?_⟩; have HO320 := Aside0.mk (Kd.S_lower (Kd.S_new' ho0 (Kd.S_lt (by (with_reducible repeat (first | apply Kd.S_alloc | apply Kd.S_drewN | apply Kd.S_drew)); exact HO_5.out))) (below_size (zb1 HB))); replace HO_5 := Aside0.mk (Kd.S_elder' (by (with_reducible repeat (first | apply Kd.S_alloc | apply Kd.S_drewN | apply Kd.S_drew)); exact HO_5.out) (Kd.S_base ho0) hb); replace HO_26 := Aside0.mk (Kd.R_below (zq3 HO_26) hb); replace BK308 := Aside0.mk (zbb BK308 hb); replace HB := Aside0.mk (below_step (zb1 HB) hb); (try clear hb); (try clear hb2); (try clear hk); (try clear hi); (try clear ho0); obtain ⟨Ao23, co23, eo23⟩ := Kd.S_slice HO320.out; subst eo23))
          go_loopg [5, 37] k1 (fun kq v5 v37 w' => ∃ (x5_2 : List (List (S37))) (x37_2 : Int), v37 = .int .i64 x37_2 ∧ Aside0 (spec_bxCorners.l1 kq a1 x5_2 (rd y314 x28_1) y314 (y314.length : Int) x28_1 t318 (t318.length : Int) x37_2 a0_0 l0_1 l0_2 = some r) ∧ Aside0 (kq ≤ k1) ∧ Aside0 (Kd.S (Kd.slice 37 k37) 51 w' w.heap.size (fun k_ => some k_ ≠ ((.slice Ao23 t318.length co23) : Value).ownBlock) v5 x5_2) ∧ Aside0 (Kd.R (Kd.int .i64) 3 w' w.heap.size (fun _ => True) (.slice (some ad317) y314.length co16) y314) ∧ Aside0 (Kd.S (Kd.slice 37 k37) 51 w' w.heap.size (fun k_ => some k_ ≠ (v5 : Value).ownBlock) (.slice Ao23 t318.length co23) t318) ∧ Aside0 (w'.heap[gb308]? = some (.cells #[.int .i64 a0_0, (.slice (some ad312) l0_1.length c0_1), (.slice (some ad313) l0_2.length c0_2)] 27 (0, 0))) ∧ Aside0 (Below w.heap.size w w'))
          case atStart => exact ⟨(x5_1), (0), (by first | rfl | (simp; done) | (simp [*]; done)), H', ⟨Nat.le_refl _⟩, ⟨by (with_reducible repeat (first | apply Kd.S_alloc | apply Kd.S_drewN | apply Kd.S_drew)); exact Kd.S_mono HO_5.out (fun _ hk => hk.2)⟩, ⟨by (with_reducible repeat (first | apply Kd.R_alloc | apply Kd.R_drewN | apply Kd.R_drew)); exact HO_26.out⟩, ⟨by (with_reducible repeat (first | apply Kd.S_alloc | apply Kd.S_drewN | apply Kd.S_drew)); exact Kd.S_mono HO320.out (fun _ hk => hk.2)⟩, ⟨by (with_reducible repeat (first | refine blk_drewN ?_ _ | refine blk_drew ?_ | refine blk_alloc ?_ _)); exact BK308.out⟩, ⟨(zb1 HB)⟩⟩
          case round =>
           clear H'
           try clear c1
           try clear p2
           try clear c3
           try clear c3b0
           try clear c3b1
           try clear p3
           try clear q3
           try clear hx3
           try clear p6
           try clear c8
           try clear c8b0
           try clear c9
           try clear c9b0
           try clear c10
           try clear c10b0
           try clear c17
           try clear c17b0
           try clear c18
           try clear c18b0
           try clear c19
           try clear c19b0
           try clear hcz12_0
           try clear hcz12_1
           try clear hcz12_2
           try clear hcz21_0
           try clear hcz21_1
           try clear hcz21_2
           try clear hcz5_0
           try clear hcz5_1
           try clear hcz5_2
           try clear hfz12_0
           try clear hfz12_1
           try clear hfz12_2
           try clear hfz21_0
           try clear hfz21_1
           try clear hfz21_2
           try clear hfz5_0
           try clear hfz5_1
           try clear hfz5_2
           try clear hx312_0
           try clear hx313_0
           try clear hx317_0
           try clear p2
           try clear p3
           try clear p312
           try clear p313
           try clear p317
           try clear q3
           try clear q312
           try clear q313
           try clear q317
           obtain ⟨x5_2, x37_2, rfl, HA, HK2, HO_5, HO_26, HO_35, BK308, HB⟩ := hrel
           cases gk with
           | zero => exact absurd HA.out (by simp [spec_bxCorners.l1])
           | succ k2 =>
            have H := HA.out
            clear HA
            simp only [spec_bxCorners.l1] at H
            by_cases c24 : x37_2 < (t318.length : Int)
            ·
             rw [if_pos c24] at H
             have c24b0 : decide (x37_2 < (t318.length : Int)) = true := decide_eq_true c24
             clear c24
             by_cases c25 : 0 ≤ x37_2
             ·
              rw [if_pos c25] at H
              have c25b0 : decide (0 ≤ x37_2) = true := decide_eq_true c25
              clear c25
              by_cases c26 : x37_2 < (t318.length : Int)
              ·
               rw [if_pos c26] at H
               have c26b0 : decide (x37_2 < (t318.length : Int)) = true := decide_eq_true c26
               clear c26
               replace H := Option.bind_eq_some_iff.mp H
               obtain ⟨⟨t322, t323⟩, A270, H⟩ := H
               replace H : ((some (([(⟨t322, t323⟩ : S37)] : List (S37)) : List (S37))).bind fun y324 => (if y324.length + (rd_L4 t318 x37_2).length < 8796093022208 then (if x5_2.length < 5864062014805 then (spec_bxCorners.l1 k2 a1 (x5_2 ++ [(y324 ++ (rd_L4 t318 x37_2))]) (rd y314 x28_1) y314 (y314.length : Int) x28_1 t318 (t318.length : Int) (wrap64 (x37_2 + 1)) a0_0 l0_1 l0_2) else (none)) else (none))) = some r := H
               have A27 := Aside0.mk A270
               clear A270
               obtain ⟨y324, hy324⟩ : ∃ y_ : List (S37), y_ = (([(⟨t322, t323⟩ : S37)] : List (S37))) := ⟨_, rfl⟩
               replace H : (if y324.length + (rd_L4 t318 x37_2).length < 8796093022208 then (if x5_2.length < 5864062014805 then (spec_bxCorners.l1 k2 a1 (x5_2 ++ [(y324 ++ (rd_L4 t318 x37_2))]) (rd y314 x28_1) y314 (y314.length : Int) x28_1 t318 (t318.length : Int) (wrap64 (x37_2 + 1)) a0_0 l0_1 l0_2) else (none)) else (none)) = some r := by first | (rw [hy324]; with_reducible exact H) | (have H2_ := (Option.bind_some _ _).symm.trans H; rw [hy324]; with_reducible exact H2_) | (have H2_ := (Option.bind_some _ _).symm.trans H; with_reducible exact H2_) | with_reducible exact H | (rw [hy324]; exact H) | exact H
               have Ny324 := Aside0.mk hy324
               clear hy324
               by_cases c28 : y324.length + (rd_L4 t318 x37_2).length < 8796093022208
               ·
                rw [if_pos c28] at H
                have LMc28 := Aside0.mk c28
                clear c28
                obtain ⟨y327, hy327⟩ : ∃ y_ : List (S37), y_ = (y324 ++ (rd_L4 t318 x37_2)) := ⟨_, rfl⟩
                replace H : (if x5_2.length < 5864062014805 then (spec_bxCorners.l1 k2 a1 (x5_2 ++ [y327]) (rd y314 x28_1) y314 (y314.length : Int) x28_1 t318 (t318.length : Int) (wrap64 (x37_2 + 1)) a0_0 l0_1 l0_2) else (none)) = some r := by first | (rw [hy327]; with_reducible exact H) | (have H2_ := (Option.bind_some _ _).symm.trans H; rw [hy327]; with_reducible exact H2_) | (have H2_ := (Option.bind_some _ _).symm.trans H; with_reducible exact H2_) | with_reducible exact H | (rw [hy327]; exact H) | exact H
                have Ny327 := Aside0.mk hy327
                clear hy327
                by_cases c29 : x5_2.length < 5864062014805
                ·
                 rw [if_pos c29] at H
                 have LMc29 := Aside0.mk c29
                 clear c29
                 obtain ⟨y330, hy330⟩ : ∃ y_ : List (List (S37)), y_ = (x5_2 ++ [y327]) := ⟨_, rfl⟩
                 replace H : (spec_bxCorners.l1 k2 a1 y330 (rd y314 x28_1) y314 (y314.length : Int) x28_1 t318 (t318.length : Int) (wrap64 (x37_2 + 1)) a0_0 l0_1 l0_2) = some r := by first | (rw [hy330]; with_reducible exact H) | (have H2_ := (Option.bind_some _ _).symm.trans H; rw [hy330]; with_reducible exact H2_) | (have H2_ := (Option.bind_some _ _).symm.trans H; with_reducible exact H2_) | with_reducible exact H | (rw [hy330]; exact H) | exact H
                 have Ny330 := Aside0.mk hy330
                 clear hy330
                 have H' := Aside0.mk H
                 clear H
                 have p321 : 0 ≤ (x37_2 : Int) := of_decide_eq_true (by first | (with_reducible assumption) | assumption)
                 have q321 : x37_2 < (t318.length : Int) := of_decide_eq_true (by first | (with_reducible assumption) | assumption)
                 obtain ⟨ad321, A321_0, c321_0, e321, hx321_0, hl321_0, hi321_0⟩ := at_L4 (Kd.S_reads' HO_35.out).2.2 x37_2 p321 q321
                 cases e321
                 obtain ⟨ce321, hce321, hMe321, hcc321⟩ := Kd.S_get HO_35.out [] x37_2 p321 (by first | exact q321 | exact of_decide_eq_true (by first | (with_reducible assumption) | assumption) | (have e_ := (Kd.S_reads' HO_35.out).1; omega))
                 obtain ⟨ve321_0, rfl, ge321_0⟩ := hMe321
                 have hv321_0 := hcc321 0 _ rfl
                 rw [Nat.add_zero, show ((Kd.slice 37 k37)).sz = 1 from rfl, Nat.mul_one] at hv321_0
                 replace hv321_0 := Option.some.inj (hv321_0.symm.trans hx321_0)
                 rw [hv321_0] at ge321_0
                 have HL321_0 := Aside0.mk (show Kd.R k37 37 _ _ _ _ (rd_L4 t318 x37_2) from ge321_0)
                 clear hv321_0 ge321_0 hcc321 hce321
                 have HR321_0 := Aside0.mk hi321_0
                 have HC321_0 := Aside0.mk hl321_0
                 clear hi321_0 hl321_0
                 replace p321 := eq_true p321
                 replace q321 := eq_true q321
                 have hcz30_0 : wr.cell? ⟨gb308, 0, none⟩ = some (.int .i64 a0_0) := zc BK308 0
                 have hcz30_1 : wr.cell? ⟨gb308, 1, none⟩ = some (.slice (some ad312) l0_1.length c0_1) := zc BK308 1
                 have hcz30_2 : wr.cell? ⟨gb308, 2, none⟩ = some (.slice (some ad313) l0_2.length c0_2) := zc BK308 2
                 have hfz30_0 := blk_frozen BK308.out 0
                 have hfz30_1 := blk_frozen BK308.out 1
                 have hfz30_2 := blk_frozen BK308.out 2
                 go_wp2_with (first | ((with_reducible refine gate_callee (f := 64) rfl ?_); refine goesL_ (some 45) rfl rfl Try.func64 (by kernel_rfl) rfl #[.int .i64 (rd y314 x28_1), .int .i64 a0_0] rfl zq6 ?_; (with_reducible refine (spec_bxNumber.calls k2 (rd y314 x28_1) a0_0 t322 t323 _ A27.out).mono ?_); rintro e w31 ⟨rfl, hb⟩; refine ⟨_, rfl, ?_⟩; replace HO_5 := Aside0.mk (Kd.S_below (by (with_reducible repeat (first | apply Kd.S_alloc | apply Kd.S_drewN | apply Kd.S_drew)); exact HO_5.out) hb); replace HO_26 := Aside0.mk (Kd.R_below (zq3 HO_26) hb); replace HO_35 := Aside0.mk (Kd.S_below (by (with_reducible repeat (first | apply Kd.S_alloc | apply Kd.S_drewN | apply Kd.S_drew)); exact HO_35.out) hb); replace HL321_0 := Aside0.mk (Kd.R_below (zq3 HL321_0) hb); replace BK308 := Aside0.mk (zbb BK308 hb); replace HR321_0 := Aside0.mk (Kd.C_below (by repeat (first | (with_reducible exact HR321_0.out) | (with_reducible refine Kd.C_alloc ?_ _) | (with_reducible refine Kd.C_drewN ?_ _) | (with_reducible refine Kd.C_drew ?_) | exact HR321_0.out)) hb); replace HB := Aside0.mk (below_step (zb1 HB) hb); (try clear hb); (try clear hb2); (try clear hk); (try clear hi)) | ((with_reducible refine gate_dst (N := 46) rfl ?_); refine Kd.R_lit k37 _ 37 ?hg (N := 46) ?hd (xs := ([(⟨t322, t323⟩ : S37)] : List (S37))) (inner := [.int .i64 t322, .int .i64 t323]) (ok := fun _ => True) (okp := fun _ => True) ?hr ?hp (fun _ hk => hk) trivial (Below.refl _ _) (Nat.le_refl _) (by simp) ?_; (case hd => rfl); (case hg => rfl); (case hr => first | (go_simp; done) | (go_simp; rfl)); (case hp => exact (Reps.c2 (show Kd.M k37 _ _ _ (⟨t322, t323⟩ : S37) [.int .i64 t322, .int .i64 t323] from (k37_mkM _ _ _ (⟨t322, t323⟩ : S37) )) (Reps.none _ _))); intro v325 w32 ho33 hb hg_ hnew_; clear hg_ hnew_; (first | rw [← Ny324.out] at ho33 | (simp only [Int.reduceToNat] at ho33; rw [← Ny324.out] at ho33)); have HO326 := Aside0.mk (Kd.R_lower (Kd.R_new' ho33 (Kd.R_lt (zq3 HL321_0))) (below_size (zb1 HB))); replace HO_5 := Aside0.mk (Kd.S_elder' (by (with_reducible repeat (first | apply Kd.S_alloc | apply Kd.S_drewN | apply Kd.S_drew)); exact HO_5.out) (Kd.R_base ho33) hb); replace HO_26 := Aside0.mk (Kd.R_below (zq3 HO_26) hb); replace HO_35 := Aside0.mk (Kd.S_elder' (by (with_reducible repeat (first | apply Kd.S_alloc | apply Kd.S_drewN | apply Kd.S_drew)); exact HO_35.out) (Kd.R_base ho33) hb); replace HL321_0 := Aside0.mk (Kd.R_elder' (zq3 HL321_0) (Kd.R_base ho33) hb); replace BK308 := Aside0.mk (zbb BK308 hb); replace HR321_0 := Aside0.mk (Kd.C_below (by repeat (first | (with_reducible exact HR321_0.out) | (with_reducible refine Kd.C_alloc ?_ _) | (with_reducible refine Kd.C_drewN ?_ _) | (with_reducible refine Kd.C_drew ?_) | exact HR321_0.out)) hb); replace HB := Aside0.mk (below_step (zb1 HB) hb); clear hb ho33) | ((with_reducible refine gate_builtin (b := .append) (xs := #[.tmp 46, .tmp 47]) rfl ?_); at_builtin; refine Kd.R_append_rows k37 (w0 := w) w.heap.size rfl (.tmp 46) (.tmp 47) 51 37 (.agg #[(.int .i64 0), (.int .i64 0)]) 16 rfl Try.underlying51 info37 rfl (by decide) (by omega) v325 y324 (rd_L4 t318 x37_2) _ _ _ (fun k_ => some k_ ≠ (.slice A321_0 (rd_L4 t318 x37_2).length c321_0 : Value).ownBlock) (fun _ => False) rfl rfl ?aO ?aR (fun _ _ h => h) (fun _ h => h.elim) ?aF ?aB ?aS ?aL ?_; (case aR => repeat (first | exact (by repeat (first | (with_reducible exact HR321_0.out) | (with_reducible refine Kd.C_alloc ?_ _) | (with_reducible refine Kd.C_drewN ?_ _) | (with_reducible refine Kd.C_drew ?_) | exact HR321_0.out)) | (with_reducible refine Kd.C_alloc ?_ _) | (with_reducible refine Kd.C_drewN ?_ _) | (with_reducible refine Kd.C_drew ?_))); (case aB => exact (zb1 HB)); (case aF => exact (fun k_ hk => Kd.fresh' (Kd.R_lt (zq3 HL321_0)) k_ hk)); (case aO => exact (by (with_reducible repeat (first | apply Kd.R_alloc | apply Kd.R_drewN | apply Kd.R_drew)); exact Kd.R_mono HO326.out (fun _ hk => hk.2))); (case aS => exact (below_size (zb1 HB))); (case aL => have := LMc28.out; omega); intro v328 w34 ho hb hg hat; rw [← Ny327.out] at ho; have HO329 := Aside0.mk (ho); replace HO_5 := Aside0.mk (Kd.S_after (ok := (fun k_ => some k_ ≠ (.slice (some ad321) t318.length co23 : Value).ownBlock)) (by (with_reducible repeat (first | apply Kd.S_alloc | apply Kd.S_drewN | apply Kd.S_drew)); exact HO_5.out) hg hat); replace HO_26 := Aside0.mk (Kd.R_over' (zq3 HO_26) (Kd.R_typed (zq3 HO326)) (by decide) hg); replace HO_35 := Aside0.mk (Kd.S_after (ok := (fun k_ => some k_ ≠ (u5 : Value).ownBlock)) (by (with_reducible repeat (first | apply Kd.S_alloc | apply Kd.S_drewN | apply Kd.S_drew)); exact HO_35.out) hg hat); replace BK308 := Aside0.mk (blk_grown (g := gb308) (o := .cells #[.int .i64 a0_0, .slice (some ad312) l0_1.length c0_1, .slice (some ad313) l0_2.length c0_2] 27 (0, 0)) (zq1 BK308) hg (Kd.R_ne HO326.out BK308.out (by decide))); replace HL321_0 := Aside0.mk (Kd.R_after (ok := (fun k_ => some k_ ≠ (u5 : Value).ownBlock ∧ some k_ ≠ (.slice (some ad321) t318.length co23 : Value).ownBlock)) (zq3 HL321_0) hg hat); replace HB := Aside0.mk (hb); clear HO326; clear ho hb hg hat; obtain ⟨Ao36, co36, eo36⟩ := Kd.R_slice HO329.out; subst eo36) | ((with_reducible refine gate_builtin (b := .append) (xs := #[.tmp 41, .tmp 49]) rfl ?_); at_builtin; refine Kd.S_append (Kd.slice 37 k37) (w0 := w) w.heap.size rfl (.tmp 41) (.tmp 49) 57 51 (.slice none 0 0) 24 rfl Try.underlying57 info51 rfl (by decide) (by omega) u5 x5_2 y327 [.slice Ao36 y327.length co36] (fun k_ => some k_ ≠ (.slice (some ad321) t318.length co23 : Value).ownBlock) (fun k_ => some k_ = (.slice Ao36 y327.length co36 : Value).ownBlock) rfl rfl ?aP (fun k_ hk_ => ((Kd.R_mono (ok' := fun k_ => ((fun k_ => some k_ ≠ (.slice (some ad321) t318.length co23 : Value).ownBlock)) k_ ∧ some k_ ≠ (u5 : Value).ownBlock) (Kd.R_apart' (Kd.R_apart' (HO329.out) (Kd.S_typed HO_35.out) (by decide)) (Kd.S_typed HO_5.out) (by decide)) (fun k_ hk => ⟨hk.1.2, hk.2⟩))).1 k_ hk_.symm) ?aF ?aO ?aB ?aS ?aL ?_; (case aP => exact Kd.M_row (Kd.R_mono (Kd.R_tight rfl (Kd.R_mono (ok' := fun k_ => ((fun k_ => some k_ ≠ (.slice (some ad321) t318.length co23 : Value).ownBlock)) k_ ∧ some k_ ≠ (u5 : Value).ownBlock) (Kd.R_apart' (Kd.R_apart' (HO329.out) (Kd.S_typed HO_35.out) (by decide)) (Kd.S_typed HO_5.out) (by decide)) (fun k_ hk => ⟨hk.1.2, hk.2⟩))) (fun _ h_ => h_))); (case aB => exact (zb1 HB)); (case aF => exact (fun k_ hk => Kd.fresh' (Kd.S_lt (by (with_reducible repeat (first | apply Kd.S_alloc | apply Kd.S_drewN | apply Kd.S_drew)); exact HO_35.out)) k_ hk)); (case aO => exact (by (with_reducible repeat (first | apply Kd.S_alloc | apply Kd.S_drewN | apply Kd.S_drew)); exact Kd.S_mono HO_5.out (fun k_ hk => ⟨hk.1, fun e_ => hk.2 e_⟩))); (case aS => exact (below_size (zb1 HB))); (case aL => have := LMc29.out; omega); intro v331 w35 ho hb hg hat; rw [← Ny330.out] at ho; have HO332 := Aside0.mk (ho); replace HO_26 := Aside0.mk (Kd.R_over' (zq3 HO_26) (Kd.S_typed (by (with_reducible repeat (first | apply Kd.S_alloc | apply Kd.S_drewN | apply Kd.S_drew)); exact HO_5.out)) (by decide) hg); replace HO_35 := Aside0.mk (Kd.S_after (ok := (fun k_ => some k_ ≠ (.slice Ao36 y327.length co36 : Value).ownBlock)) (by (with_reducible repeat (first | apply Kd.S_alloc | apply Kd.S_drewN | apply Kd.S_drew)); exact Kd.S_mono HO_35.out (fun _ hk => ⟨hk.2, hk.1⟩)) hg hat); replace BK308 := Aside0.mk (blk_grown (g := gb308) (o := .cells #[.int .i64 a0_0, .slice (some ad312) l0_1.length c0_1, .slice (some ad313) l0_2.length c0_2] 27 (0, 0)) (zq1 BK308) hg (Kd.S_ne HO_5.out BK308.out (by decide))); replace HL321_0 := Aside0.mk (Kd.R_after (ok := (fun k_ => some k_ ≠ (.slice (some ad321) t318.length co23 : Value).ownBlock ∧ some k_ ≠ (.slice Ao36 y327.length co36 : Value).ownBlock)) (by (with_reducible repeat (first | apply Kd.R_alloc | apply Kd.R_drewN | apply Kd.R_drew)); exact Kd.R_mono HL321_0.out (fun _ hk => ⟨⟨hk.1.2, hk.2⟩, hk.1.1⟩)) hg hat); replace HB := Aside0.mk (hb); clear HO_5 HO329; clear ho hb hg hat))
                 go_roundg k2
                 case measure => have := HK1.out; have := HK2.out; omega
                 case rel => exact ⟨(y330), (wrap64 (x37_2 + 1)), (by first | rfl | (simp; done) | (simp [*]; done)), H', ⟨by have := HK1.out; have := HK2.out; omega⟩, ⟨by (with_reducible repeat (first | apply Kd.S_alloc | apply Kd.S_drewN | apply Kd.S_drew)); exact HO332.out⟩, ⟨by (with_reducible repeat (first | apply Kd.R_alloc | apply Kd.R_drewN | apply Kd.R_drew)); exact HO_26.out⟩, ⟨by (with_reducible repeat (first | apply Kd.S_alloc | apply Kd.S_drewN | apply Kd.S_drew)); exact Kd.S_mono HO_35.out (fun _ hk => hk.2)⟩, ⟨by (with_reducible repeat (first | refine blk_drewN ?_ _ | refine blk_drew ?_ | refine blk_alloc ?_ _)); exact BK308.out⟩, ⟨(zb1 HB)⟩⟩
                ·
                 rw [if_neg c29] at H
                 exact absurd H (by simp)
               ·
                rw [if_neg c28] at H
                exact absurd H (by simp)
              ·
               rw [if_neg c26] at H
               exact absurd H (by simp)
             ·
              rw [if_neg c25] at H
              exact absurd H (by simp)
            ·
             rw [if_neg c24] at H
             have c24b0 : decide (x37_2 < (t318.length : Int)) = false := decide_eq_false c24
             clear c24
             have H' := Aside0.mk H
             clear H
             go_wp2
             go_roundg k2
             case measure => have := HK1.out; have := HK2.out; omega
             case rel => exact ⟨(x5_2), (wrap64 (x28_1 + 1)), (by first | rfl | (simp; done) | (simp [*]; done)), H', ⟨by have := HK1.out; have := HK2.out; omega⟩, ⟨by (with_reducible repeat (first | apply Kd.S_alloc | apply Kd.S_drewN | apply Kd.S_drew)); exact Kd.S_mono HO_5.out (fun _ hk => trivial)⟩, ⟨by (with_reducible repeat (first | apply Kd.R_alloc | apply Kd.R_drewN | apply Kd.R_drew)); exact HO_26.out⟩, ⟨by (with_reducible repeat (first | refine blk_drewN ?_ _ | refine blk_drew ?_ | refine blk_alloc ?_ _)); exact BK308.out⟩, ⟨(zb1 HB)⟩⟩
         ·
          rw [if_neg c19] at H
          exact absurd H (by simp)
        ·
         rw [if_neg c18] at H
         exact absurd H (by simp)
       ·
        rw [if_neg c17] at H
        have c17b0 : decide (x28_1 < (y314.length : Int)) = false := decide_eq_false c17
        clear c17
        obtain rfl := Option.some.inj H
        go_wp2
        go_ret
        exact ⟨_, by first | rfl | (simp [errW_none, errW_some] <;> rfl) | (simp [*, errW_none, errW_some] <;> rfl), by (with_reducible repeat (first | apply Kd.S_alloc | apply Kd.S_drewN | apply Kd.S_drew)); exact HO_5.out, (zb1 HB)⟩
    ·
     rw [if_neg c10] at H
     exact absurd H (by simp)
   ·
    rw [if_neg c9] at H
    exact absurd H (by simp)
  ·
   rw [if_neg c8] at H
   exact absurd H (by simp)
end Go.Proofs.Ytgaoniapddpaaaa.PD
