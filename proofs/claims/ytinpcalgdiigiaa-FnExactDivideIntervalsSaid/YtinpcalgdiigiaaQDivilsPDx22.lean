-- By wip/mk/drv.py
import Derived.Test.YtinpcalgdiigiaaQDivilsPDx0
import Derived.Test.YtinpcalgdiigiaaQDivilsPDx1
import Derived.Test.YtinpcalgdiigiaaQDivilsPDx5
namespace Go.Proofs.Ytinpcalgdiigiaa.PD
open Go.RowKit Go.Proofs.YtinpcalgdiigiaaW.PrintWords Go.Proofs.YtinpcalgdiigiaaW.PrintLast Go.Proofs.YtinpcalgdiigiaaW.PrintMore
attribute [local go_sem] max2_int min2_int max_two min_two max_three min_three max_four min_four
set_option linter.unusedVariables false
set_option linter.unusedSimpArgs false
/-! ### spec_ivEnds: function 82 -/
def spec_ivEnds.T1 : Bool × List (List Nat × List Nat) := (true, [([], []), ([0], [0]), ([1], [1]), ([], []), ([3], [3]), ([4], [4]), ([2, 5], [2, 5]), ([], []), ([7, 6, 0, 1, 2, 3, 4, 5, 6, 7], [6, 7])])
def spec_ivEnds.B1 : List Nat := [0, 1, 3, 0, 8, 24, 63, 0, 255]
theorem spec_ivEnds.tab1 : rtab .any (opsOf Try.f82 1) = spec_ivEnds.T1 := by kernel_rfl
theorem spec_ivEnds.bits1 : waitsOk spec_ivEnds.T1.2 spec_ivEnds.B1 = true := by kernel_rfl
set_option maxHeartbeats 8000000 in
set_option maxRecDepth 100000 in
theorem spec_ivEnds.calls (k : Nat) (A0 : Option Addr) (c0 : Nat) (l0 : List (S27)) (r1 : Int) (r2 : Int) (r3 : Int) (r4 : Int) (w : World) (hr0 : Kd.C k27 w A0 l0.length l0) (hc0 : l0.length ≤ c0) (h : spec_ivEnds.f k l0 = some (r1, r2, r3, r4)) :
  Calls Try.prog 82 #[.slice A0 l0.length c0] w fun e w' => e = .returned (.agg #[.int .i64 r1, .int .i64 r2, .int .i64 r3, .int .i64 r4]) ∧ Below w.heap.size w w' := by
 have hu29 := Try.underlying29
 have hu27 := Try.underlying27
 have HR0 := Aside0.mk hr0
 have HC0 := Aside0.mk hc0
 clear hr0 hc0
 have HB := Aside0.mk (Below.refl w.heap.size w)
 have H : (if 0 < (l0.length : Int) then (spec_ivEnds.l0 k l0 (l0.length : Int) 0 ((rd_T27 l0 0).f0) ((rd_T27 l0 0).f1) ((rd_T27 l0 0).f0) ((rd_T27 l0 0).f1)) else (none)) = some (r1, r2, r3, r4) := h
 clear h
 by_cases c2 : 0 < (l0.length : Int)
 ·
  rw [if_pos c2] at H
  have c2b0 : decide (0 < (l0.length : Int)) = true := decide_eq_true c2
  have c2b1 : decide (0 < l0.length) = true := decide_eq_true (by omega)
  clear c2
  have H' := Aside0.mk H
  clear H
  go_enter Try.func82, Try.ntmps82
  try go_wp2_with (first | ((with_reducible refine gate_dst (N := 2) rfl ?_); refine zbe (N := 2) (cs := #[.int .i64 0, .int .i64 0, .int .i64 0, .int .i64 0]) (t := 29) ?_; intro gb260 hg w3 hbox hb; have BK260 := Aside0.mk (hbox); have GW260 := Aside0.mk (zge (zb0 HB) hg); have GE260 := GW260; replace HB := Aside0.mk (below_step (zb0 HB) hb); clear hb hbox hg))
  replace BK260 := Aside0.mk (blk_drew BK260.out); replace HB := Aside0.mk (below_drew1 HB.out)
  have p261 : 0 ≤ (0 : Int) := (by omega)
  have q261 : 0 < (l0.length : Int) := of_decide_eq_true (by first | (with_reducible assumption) | assumption)
  obtain ⟨ad261, e261, hx261_0, hx261_1⟩ := at_T27 HR0.out 0 p261 q261
  have hw261_1 := hx261_1
  (try rw [show ((0 : Int)).toNat = 0 from rfl] at hw261_1)
  (try rw [show 0 * 2 = 0 from rfl] at hw261_1)
  (try rw [Addr.add_zero'] at hw261_1)
  have hw261_0 := hx261_0
  (try rw [show ((0 : Int)).toNat = 0 from rfl] at hw261_0)
  (try rw [show 0 * 2 = 0 from rfl] at hw261_0)
  (try rw [Addr.add_zero'] at hw261_0)
  cases e261
  have qi261 : (0 < l0.length) = True := eq_true (by omega)
  (try rw [show ((0 : Int)).toNat = 0 from rfl] at hx261_0)
  (try rw [show 0 * 2 = 0 from rfl] at hx261_0)
  (try rw [Addr.add_zero'] at hx261_0)
  (try rw [show ((0 : Int)).toNat = 0 from rfl] at hx261_1)
  (try rw [show 0 * 2 = 0 from rfl] at hx261_1)
  (try rw [Addr.add_zero'] at hx261_1)
  replace hx261_0 := (HB.out.cell (World.block_lt_of_cell? w _ hx261_0)).trans hx261_0
  replace hx261_1 := (HB.out.cell (World.block_lt_of_cell? w _ hx261_1)).trans hx261_1
  replace p261 := eq_true p261
  replace q261 := eq_true q261
  have p262 : 0 ≤ (0 : Int) := (by omega)
  have q262 : 0 < (l0.length : Int) := of_decide_eq_true (by first | (with_reducible assumption) | assumption)
  obtain ⟨ad262, e262, hx262_0, hx262_1⟩ := at_T27 HR0.out 0 p262 q262
  have hw262_1 := hx262_1
  (try rw [show ((0 : Int)).toNat = 0 from rfl] at hw262_1)
  (try rw [show 0 * 2 = 0 from rfl] at hw262_1)
  (try rw [Addr.add_zero'] at hw262_1)
  have hw262_0 := hx262_0
  (try rw [show ((0 : Int)).toNat = 0 from rfl] at hw262_0)
  (try rw [show 0 * 2 = 0 from rfl] at hw262_0)
  (try rw [Addr.add_zero'] at hw262_0)
  obtain rfl : ad261 = ad262 := (by injection e262)
  have qi262 : (0 < l0.length) = True := eq_true (by omega)
  (try rw [show ((0 : Int)).toNat = 0 from rfl] at hx262_0)
  (try rw [show 0 * 2 = 0 from rfl] at hx262_0)
  (try rw [Addr.add_zero'] at hx262_0)
  (try rw [show ((0 : Int)).toNat = 0 from rfl] at hx262_1)
  (try rw [show 0 * 2 = 0 from rfl] at hx262_1)
  (try rw [Addr.add_zero'] at hx262_1)
  replace hx262_0 := (HB.out.cell (World.block_lt_of_cell? w _ hx262_0)).trans hx262_0
  replace hx262_1 := (HB.out.cell (World.block_lt_of_cell? w _ hx262_1)).trans hx262_1
  replace p262 := eq_true p262
  replace q262 := eq_true q262
  refine start_ (n := 9) (S := fun w' => w'.cell? ad261 = some (.int .i64 ((rd_T27 l0 0).f0)) ∧ w'.cell? ⟨ad261.block, ad261.off + 1, none⟩ = some (.int .i64 ((rd_T27 l0 0).f1)) ∧ w'.cell? ad261 = some (.int .i64 ((rd_T27 l0 0).f0)) ∧ w'.cell? ⟨ad261.block, ad261.off + 1, none⟩ = some (.int .i64 ((rd_T27 l0 0).f1))) (ds := []) #[false, false, false, false, false, false, false, false, false] (by kernel_rfl) rfl rfl ⟨((HB.out.cell (World.block_lt_of_cell? w _ hw261_0)).trans hw261_0), ((HB.out.cell (World.block_lt_of_cell? w _ hw261_1)).trans hw261_1), ((HB.out.cell (World.block_lt_of_cell? w _ hw262_0)).trans hw262_0), ((HB.out.cell (World.block_lt_of_cell? w _ hw262_1)).trans hw262_1)⟩ (fun hHeld => ?_); refine with_tabW spec_ivEnds.tab1 spec_ivEnds.bits1 (fun HT_ HW_ => ?_)
  generalize w3.drew = w4 at BK260 HB hx261_0 hx261_1 hx262_0 hx262_1 hHeld ⊢
  refine zp (i := 0) (N := some 6) #[true, false, false, false, false, false, false, false, false] (any_of HT_.out (by kernel_rfl)) ?_
  refine zp (i := 1) (N := some 7) #[true, true, false, false, false, false, false, false, false] (any_of HT_.out (by kernel_rfl)) ?_
  refine zp (i := 3) (N := some 9) #[true, true, false, true, false, false, false, false, false] (any_of HT_.out (by kernel_rfl)) ?_
  refine zp (i := 4) (N := some 10) #[true, true, false, true, true, false, false, false, false] (any_of HT_.out (by kernel_rfl)) ?_
  refine take_ (i := 2) (N := some 8) (v := ?_) (a' := ?_) #[true, true, true, true, true, false, false, false, false] rfl rfl (take_ofW HT_.out HW_.out (by kernel_rfl)) (fun _ _ _ h => h) (Or.inl ⟨by rfl, ?_⟩) hHeld ?_ ?_
  rotate_left
  ·
   rintro w' ⟨s0, s1, s2, s3⟩
   go_simp
   with_reducible rfl
  rotate_left
  ·
   simp only [Act.put, List.setIfInBounds_toArray, List.set_cons_zero, List.set_cons_succ, i64_w, i32_w]
   rfl
  refine take_ (i := 5) (N := some 11) (v := ?_) (a' := ?_) #[true, true, true, true, true, true, false, false, false] rfl rfl (take_ofW HT_.out HW_.out (by kernel_rfl)) (fun _ _ _ h => h) (Or.inl ⟨by rfl, ?_⟩) hHeld ?_ ?_
  rotate_left
  ·
   rintro w' ⟨s0, s1, s2, s3⟩
   go_simp
   with_reducible rfl
  rotate_left
  ·
   simp only [Act.put, List.setIfInBounds_toArray, List.set_cons_zero, List.set_cons_succ, i64_w, i32_w]
   rfl
  refine zp (i := 6) (N := some 12) #[true, true, true, true, true, true, true, false, false] (any_of HT_.out (by kernel_rfl)) ?_
  refine one_ (i := 7) (N := some 3) #[true, true, true, true, true, true, true, true, false] rfl rfl (one_of HT_.out (by kernel_rfl)) (by decide) (fun K hK => ?_)
  refine box_step ?hg (N := 3) ?hd (cs := #[.int .i64 0, .int .i64 0, .int .i64 0, .int .i64 0]) (t := 29) ?hr ?_; (case hd => rfl); (case hg => rfl); (case hr => first | (go_simp; done) | (go_simp; rfl))
  intro gb263 hg w5 hbox hb
  have n0_ := Aside0.mk (zbb BK260 hb)
  have n1_ := Aside0.mk (below_step (zb1 HB) hb)
  have BK263 := Aside0.mk (hbox)
  have GW263 := Aside0.mk (zge (zb1 HB) hg)
  have GE263 := Aside0.mk (zge (zb1 HB) hg)
  have NB260_263 := Aside0.mk (zlt BK260 hg)
  have NB263_260 := Aside0.mk (zgt BK260 hg)
  clear BK260 HB
  have BK260 := n0_; have HB := n1_
  clear n0_ n1_ hb hbox hg
  refine hK.out _ _ ⟨((HB.out.cell (World.block_lt_of_cell? w _ hw261_0)).trans hw261_0), ((HB.out.cell (World.block_lt_of_cell? w _ hw261_1)).trans hw261_1), ((HB.out.cell (World.block_lt_of_cell? w _ hw262_0)).trans hw262_0), ((HB.out.cell (World.block_lt_of_cell? w _ hw262_1)).trans hw262_1)⟩ (fun hHeld => ?_)
  clear hK K
  refine norm_ (a' := ?_) ?_ ?_
  rotate_left
  ·
   show Act.put _ (some 3) _ = _
   simp only [Act.put, List.setIfInBounds_toArray, List.set_cons_zero, List.set_cons_succ, i64_w, i32_w]; rfl
  refine one_ (i := 8) (N := none) #[true, true, true, true, true, true, true, true, true] rfl rfl (one_of HT_.out (by kernel_rfl)) (by decide) (fun K hK => ?_)
  have hs6 : w5.cell? ⟨gb263, 0, none⟩ = some (.int .i64 0) := zc BK263 0
  have hfs6 := blk_frozen BK263.out 0
  have hns6_0 := NB260_263.out
  have hms6_0 := NB263_260.out
  have hs7 : w5.cell? ⟨gb263, 1, none⟩ = some (.int .i64 0) := zc BK263 1
  have hfs7 := blk_frozen BK263.out 1
  have hns7_0 := NB260_263.out
  have hms7_0 := NB263_260.out
  have hs8 : w5.cell? ⟨gb263, 2, none⟩ = some (.int .i64 0) := zc BK263 2
  have hfs8 := blk_frozen BK263.out 2
  have hns8_0 := NB260_263.out
  have hms8_0 := NB263_260.out
  have hs9 : w5.cell? ⟨gb263, 3, none⟩ = some (.int .i64 0) := zc BK263 3
  have hfs9 := blk_frozen BK263.out 3
  have hns9_0 := NB260_263.out
  have hms9_0 := NB263_260.out
  refine skip_ (w1 := ?_) (by rfl) rfl ?_ ?_
  rotate_left
  ·
   go_simp
   rfl
  refine hK.out _ _ ⟨((cell_far (p := ⟨gb263, _, none⟩) (by first | exact Nat.ne_of_lt (Nat.lt_of_lt_of_le (by have := World.block_lt_of_cell? _ _ hw261_0; first | rwa [add_block] at this | exact this) GW263.out) | (rw [add_block]; exact Nat.ne_of_lt (Nat.lt_of_lt_of_le (by have := World.block_lt_of_cell? _ _ hw261_0; first | rwa [add_block] at this | exact this) GW263.out)) | (show (Addr.add _ _).block ≠ _; rw [add_block]; exact Nat.ne_of_lt (Nat.lt_of_lt_of_le (by have := World.block_lt_of_cell? _ _ hw261_0; first | rwa [add_block] at this | exact this) GW263.out)) | (dsimp only; exact Nat.ne_of_lt (Nat.lt_of_lt_of_le (by have := World.block_lt_of_cell? _ _ hw261_0; first | rwa [add_block] at this | exact this) GW263.out))) _).trans (((cell_far (p := ⟨gb263, _, none⟩) (by first | exact Nat.ne_of_lt (Nat.lt_of_lt_of_le (by have := World.block_lt_of_cell? _ _ hw261_0; first | rwa [add_block] at this | exact this) GW263.out) | (rw [add_block]; exact Nat.ne_of_lt (Nat.lt_of_lt_of_le (by have := World.block_lt_of_cell? _ _ hw261_0; first | rwa [add_block] at this | exact this) GW263.out)) | (show (Addr.add _ _).block ≠ _; rw [add_block]; exact Nat.ne_of_lt (Nat.lt_of_lt_of_le (by have := World.block_lt_of_cell? _ _ hw261_0; first | rwa [add_block] at this | exact this) GW263.out)) | (dsimp only; exact Nat.ne_of_lt (Nat.lt_of_lt_of_le (by have := World.block_lt_of_cell? _ _ hw261_0; first | rwa [add_block] at this | exact this) GW263.out))) _).trans (((cell_far (p := ⟨gb263, _, none⟩) (by first | exact Nat.ne_of_lt (Nat.lt_of_lt_of_le (by have := World.block_lt_of_cell? _ _ hw261_0; first | rwa [add_block] at this | exact this) GW263.out) | (rw [add_block]; exact Nat.ne_of_lt (Nat.lt_of_lt_of_le (by have := World.block_lt_of_cell? _ _ hw261_0; first | rwa [add_block] at this | exact this) GW263.out)) | (show (Addr.add _ _).block ≠ _; rw [add_block]; exact Nat.ne_of_lt (Nat.lt_of_lt_of_le (by have := World.block_lt_of_cell? _ _ hw261_0; first | rwa [add_block] at this | exact this) GW263.out)) | (dsimp only; exact Nat.ne_of_lt (Nat.lt_of_lt_of_le (by have := World.block_lt_of_cell? _ _ hw261_0; first | rwa [add_block] at this | exact this) GW263.out))) _).trans (((cell_far (p := ⟨gb263, _, none⟩) (by first | exact Nat.ne_of_lt (Nat.lt_of_lt_of_le (by have := World.block_lt_of_cell? _ _ hw261_0; first | rwa [add_block] at this | exact this) GW263.out) | (rw [add_block]; exact Nat.ne_of_lt (Nat.lt_of_lt_of_le (by have := World.block_lt_of_cell? _ _ hw261_0; first | rwa [add_block] at this | exact this) GW263.out)) | (show (Addr.add _ _).block ≠ _; rw [add_block]; exact Nat.ne_of_lt (Nat.lt_of_lt_of_le (by have := World.block_lt_of_cell? _ _ hw261_0; first | rwa [add_block] at this | exact this) GW263.out)) | (dsimp only; exact Nat.ne_of_lt (Nat.lt_of_lt_of_le (by have := World.block_lt_of_cell? _ _ hw261_0; first | rwa [add_block] at this | exact this) GW263.out))) _).trans (hHeld.1)))))))), ((cell_far (p := ⟨gb263, _, none⟩) (by first | exact Nat.ne_of_lt (Nat.lt_of_lt_of_le (by have := World.block_lt_of_cell? _ _ hw261_1; first | rwa [add_block] at this | exact this) GW263.out) | (rw [add_block]; exact Nat.ne_of_lt (Nat.lt_of_lt_of_le (by have := World.block_lt_of_cell? _ _ hw261_1; first | rwa [add_block] at this | exact this) GW263.out)) | (show (Addr.add _ _).block ≠ _; rw [add_block]; exact Nat.ne_of_lt (Nat.lt_of_lt_of_le (by have := World.block_lt_of_cell? _ _ hw261_1; first | rwa [add_block] at this | exact this) GW263.out)) | (dsimp only; exact Nat.ne_of_lt (Nat.lt_of_lt_of_le (by have := World.block_lt_of_cell? _ _ hw261_1; first | rwa [add_block] at this | exact this) GW263.out))) _).trans (((cell_far (p := ⟨gb263, _, none⟩) (by first | exact Nat.ne_of_lt (Nat.lt_of_lt_of_le (by have := World.block_lt_of_cell? _ _ hw261_1; first | rwa [add_block] at this | exact this) GW263.out) | (rw [add_block]; exact Nat.ne_of_lt (Nat.lt_of_lt_of_le (by have := World.block_lt_of_cell? _ _ hw261_1; first | rwa [add_block] at this | exact this) GW263.out)) | (show (Addr.add _ _).block ≠ _; rw [add_block]; exact Nat.ne_of_lt (Nat.lt_of_lt_of_le (by have := World.block_lt_of_cell? _ _ hw261_1; first | rwa [add_block] at this | exact this) GW263.out)) | (dsimp only; exact Nat.ne_of_lt (Nat.lt_of_lt_of_le (by have := World.block_lt_of_cell? _ _ hw261_1; first | rwa [add_block] at this | exact this) GW263.out))) _).trans (((cell_far (p := ⟨gb263, _, none⟩) (by first | exact Nat.ne_of_lt (Nat.lt_of_lt_of_le (by have := World.block_lt_of_cell? _ _ hw261_1; first | rwa [add_block] at this | exact this) GW263.out) | (rw [add_block]; exact Nat.ne_of_lt (Nat.lt_of_lt_of_le (by have := World.block_lt_of_cell? _ _ hw261_1; first | rwa [add_block] at this | exact this) GW263.out)) | (show (Addr.add _ _).block ≠ _; rw [add_block]; exact Nat.ne_of_lt (Nat.lt_of_lt_of_le (by have := World.block_lt_of_cell? _ _ hw261_1; first | rwa [add_block] at this | exact this) GW263.out)) | (dsimp only; exact Nat.ne_of_lt (Nat.lt_of_lt_of_le (by have := World.block_lt_of_cell? _ _ hw261_1; first | rwa [add_block] at this | exact this) GW263.out))) _).trans (((cell_far (p := ⟨gb263, _, none⟩) (by first | exact Nat.ne_of_lt (Nat.lt_of_lt_of_le (by have := World.block_lt_of_cell? _ _ hw261_1; first | rwa [add_block] at this | exact this) GW263.out) | (rw [add_block]; exact Nat.ne_of_lt (Nat.lt_of_lt_of_le (by have := World.block_lt_of_cell? _ _ hw261_1; first | rwa [add_block] at this | exact this) GW263.out)) | (show (Addr.add _ _).block ≠ _; rw [add_block]; exact Nat.ne_of_lt (Nat.lt_of_lt_of_le (by have := World.block_lt_of_cell? _ _ hw261_1; first | rwa [add_block] at this | exact this) GW263.out)) | (dsimp only; exact Nat.ne_of_lt (Nat.lt_of_lt_of_le (by have := World.block_lt_of_cell? _ _ hw261_1; first | rwa [add_block] at this | exact this) GW263.out))) _).trans (hHeld.2.1)))))))), ((cell_far (p := ⟨gb263, _, none⟩) (by first | exact Nat.ne_of_lt (Nat.lt_of_lt_of_le (by have := World.block_lt_of_cell? _ _ hw262_0; first | rwa [add_block] at this | exact this) GW263.out) | (rw [add_block]; exact Nat.ne_of_lt (Nat.lt_of_lt_of_le (by have := World.block_lt_of_cell? _ _ hw262_0; first | rwa [add_block] at this | exact this) GW263.out)) | (show (Addr.add _ _).block ≠ _; rw [add_block]; exact Nat.ne_of_lt (Nat.lt_of_lt_of_le (by have := World.block_lt_of_cell? _ _ hw262_0; first | rwa [add_block] at this | exact this) GW263.out)) | (dsimp only; exact Nat.ne_of_lt (Nat.lt_of_lt_of_le (by have := World.block_lt_of_cell? _ _ hw262_0; first | rwa [add_block] at this | exact this) GW263.out))) _).trans (((cell_far (p := ⟨gb263, _, none⟩) (by first | exact Nat.ne_of_lt (Nat.lt_of_lt_of_le (by have := World.block_lt_of_cell? _ _ hw262_0; first | rwa [add_block] at this | exact this) GW263.out) | (rw [add_block]; exact Nat.ne_of_lt (Nat.lt_of_lt_of_le (by have := World.block_lt_of_cell? _ _ hw262_0; first | rwa [add_block] at this | exact this) GW263.out)) | (show (Addr.add _ _).block ≠ _; rw [add_block]; exact Nat.ne_of_lt (Nat.lt_of_lt_of_le (by have := World.block_lt_of_cell? _ _ hw262_0; first | rwa [add_block] at this | exact this) GW263.out)) | (dsimp only; exact Nat.ne_of_lt (Nat.lt_of_lt_of_le (by have := World.block_lt_of_cell? _ _ hw262_0; first | rwa [add_block] at this | exact this) GW263.out))) _).trans (((cell_far (p := ⟨gb263, _, none⟩) (by first | exact Nat.ne_of_lt (Nat.lt_of_lt_of_le (by have := World.block_lt_of_cell? _ _ hw262_0; first | rwa [add_block] at this | exact this) GW263.out) | (rw [add_block]; exact Nat.ne_of_lt (Nat.lt_of_lt_of_le (by have := World.block_lt_of_cell? _ _ hw262_0; first | rwa [add_block] at this | exact this) GW263.out)) | (show (Addr.add _ _).block ≠ _; rw [add_block]; exact Nat.ne_of_lt (Nat.lt_of_lt_of_le (by have := World.block_lt_of_cell? _ _ hw262_0; first | rwa [add_block] at this | exact this) GW263.out)) | (dsimp only; exact Nat.ne_of_lt (Nat.lt_of_lt_of_le (by have := World.block_lt_of_cell? _ _ hw262_0; first | rwa [add_block] at this | exact this) GW263.out))) _).trans (((cell_far (p := ⟨gb263, _, none⟩) (by first | exact Nat.ne_of_lt (Nat.lt_of_lt_of_le (by have := World.block_lt_of_cell? _ _ hw262_0; first | rwa [add_block] at this | exact this) GW263.out) | (rw [add_block]; exact Nat.ne_of_lt (Nat.lt_of_lt_of_le (by have := World.block_lt_of_cell? _ _ hw262_0; first | rwa [add_block] at this | exact this) GW263.out)) | (show (Addr.add _ _).block ≠ _; rw [add_block]; exact Nat.ne_of_lt (Nat.lt_of_lt_of_le (by have := World.block_lt_of_cell? _ _ hw262_0; first | rwa [add_block] at this | exact this) GW263.out)) | (dsimp only; exact Nat.ne_of_lt (Nat.lt_of_lt_of_le (by have := World.block_lt_of_cell? _ _ hw262_0; first | rwa [add_block] at this | exact this) GW263.out))) _).trans (hHeld.2.2.1)))))))), ((cell_far (p := ⟨gb263, _, none⟩) (by first | exact Nat.ne_of_lt (Nat.lt_of_lt_of_le (by have := World.block_lt_of_cell? _ _ hw262_1; first | rwa [add_block] at this | exact this) GW263.out) | (rw [add_block]; exact Nat.ne_of_lt (Nat.lt_of_lt_of_le (by have := World.block_lt_of_cell? _ _ hw262_1; first | rwa [add_block] at this | exact this) GW263.out)) | (show (Addr.add _ _).block ≠ _; rw [add_block]; exact Nat.ne_of_lt (Nat.lt_of_lt_of_le (by have := World.block_lt_of_cell? _ _ hw262_1; first | rwa [add_block] at this | exact this) GW263.out)) | (dsimp only; exact Nat.ne_of_lt (Nat.lt_of_lt_of_le (by have := World.block_lt_of_cell? _ _ hw262_1; first | rwa [add_block] at this | exact this) GW263.out))) _).trans (((cell_far (p := ⟨gb263, _, none⟩) (by first | exact Nat.ne_of_lt (Nat.lt_of_lt_of_le (by have := World.block_lt_of_cell? _ _ hw262_1; first | rwa [add_block] at this | exact this) GW263.out) | (rw [add_block]; exact Nat.ne_of_lt (Nat.lt_of_lt_of_le (by have := World.block_lt_of_cell? _ _ hw262_1; first | rwa [add_block] at this | exact this) GW263.out)) | (show (Addr.add _ _).block ≠ _; rw [add_block]; exact Nat.ne_of_lt (Nat.lt_of_lt_of_le (by have := World.block_lt_of_cell? _ _ hw262_1; first | rwa [add_block] at this | exact this) GW263.out)) | (dsimp only; exact Nat.ne_of_lt (Nat.lt_of_lt_of_le (by have := World.block_lt_of_cell? _ _ hw262_1; first | rwa [add_block] at this | exact this) GW263.out))) _).trans (((cell_far (p := ⟨gb263, _, none⟩) (by first | exact Nat.ne_of_lt (Nat.lt_of_lt_of_le (by have := World.block_lt_of_cell? _ _ hw262_1; first | rwa [add_block] at this | exact this) GW263.out) | (rw [add_block]; exact Nat.ne_of_lt (Nat.lt_of_lt_of_le (by have := World.block_lt_of_cell? _ _ hw262_1; first | rwa [add_block] at this | exact this) GW263.out)) | (show (Addr.add _ _).block ≠ _; rw [add_block]; exact Nat.ne_of_lt (Nat.lt_of_lt_of_le (by have := World.block_lt_of_cell? _ _ hw262_1; first | rwa [add_block] at this | exact this) GW263.out)) | (dsimp only; exact Nat.ne_of_lt (Nat.lt_of_lt_of_le (by have := World.block_lt_of_cell? _ _ hw262_1; first | rwa [add_block] at this | exact this) GW263.out))) _).trans (((cell_far (p := ⟨gb263, _, none⟩) (by first | exact Nat.ne_of_lt (Nat.lt_of_lt_of_le (by have := World.block_lt_of_cell? _ _ hw262_1; first | rwa [add_block] at this | exact this) GW263.out) | (rw [add_block]; exact Nat.ne_of_lt (Nat.lt_of_lt_of_le (by have := World.block_lt_of_cell? _ _ hw262_1; first | rwa [add_block] at this | exact this) GW263.out)) | (show (Addr.add _ _).block ≠ _; rw [add_block]; exact Nat.ne_of_lt (Nat.lt_of_lt_of_le (by have := World.block_lt_of_cell? _ _ hw262_1; first | rwa [add_block] at this | exact this) GW263.out)) | (dsimp only; exact Nat.ne_of_lt (Nat.lt_of_lt_of_le (by have := World.block_lt_of_cell? _ _ hw262_1; first | rwa [add_block] at this | exact this) GW263.out))) _).trans (hHeld.2.2.2))))))))⟩ (fun hHeld => ?_)
  clear hK K
  refine done_ (done_of HT_.out (by kernel_rfl)) ?_
  try go_wp2
  go_loopg [15] k (fun kq v15 w' => ∃ (x15_1 : Int) (x264000_1 : Int) (x264001_1 : Int) (x264002_1 : Int) (x264003_1 : Int), v15 = .int .i64 x15_1 ∧ Aside0 (spec_ivEnds.l0 kq l0 (l0.length : Int) x15_1 x264000_1 x264001_1 x264002_1 x264003_1 = some (r1, r2, r3, r4)) ∧ Aside0 (kq ≤ k) ∧ Aside0 (w'.heap[gb260]? = some (.cells #[.int .i64 0, .int .i64 0, .int .i64 0, .int .i64 0] 29 (0, 0))) ∧ Aside0 (w'.heap[gb263]? = some (.cells #[.int .i64 x264000_1, .int .i64 x264001_1, .int .i64 x264002_1, .int .i64 x264003_1] 29 (0, 0))) ∧ Aside0 (Below w.heap.size w w'))
  case atStart => exact ⟨(0), ((rd_T27 l0 0).f0), ((rd_T27 l0 0).f1), ((rd_T27 l0 0).f0), ((rd_T27 l0 0).f1), (by first | rfl | (simp; done) | (simp [*]; done)), H', ⟨Nat.le_refl _⟩, ⟨zq5 BK260⟩, ⟨by (with_reducible repeat (first | refine blk_drewN ?_ _ | refine blk_drew ?_ | refine blk_alloc ?_ _)); refine blk_put (cs := #[.int .i64 ((rd_T27 l0 0).f0), .int .i64 ((rd_T27 l0 0).f1), .int .i64 ((rd_T27 l0 0).f0), .int .i64 0]) ?_ 3 _ rfl; (with_reducible repeat (first | refine blk_drewN ?_ _ | refine blk_drew ?_ | refine blk_alloc ?_ _)); refine blk_put (cs := #[.int .i64 ((rd_T27 l0 0).f0), .int .i64 ((rd_T27 l0 0).f1), .int .i64 0, .int .i64 0]) ?_ 2 _ rfl; (with_reducible repeat (first | refine blk_drewN ?_ _ | refine blk_drew ?_ | refine blk_alloc ?_ _)); refine blk_put (cs := #[.int .i64 ((rd_T27 l0 0).f0), .int .i64 0, .int .i64 0, .int .i64 0]) ?_ 1 _ rfl; (with_reducible repeat (first | refine blk_drewN ?_ _ | refine blk_drew ?_ | refine blk_alloc ?_ _)); refine blk_put (cs := #[.int .i64 0, .int .i64 0, .int .i64 0, .int .i64 0]) ?_ 0 _ rfl; (with_reducible repeat (first | refine blk_drewN ?_ _ | refine blk_drew ?_ | refine blk_alloc ?_ _)); exact BK263.out⟩, ⟨(zb1 HB)⟩⟩
  case round =>
   clear H'
   try clear c2
   try clear c2b0
   try clear c2b1
   try clear p2
   try clear q2
   try clear hx2
   try clear qi2
   try clear c8
   try clear hx261_0
   try clear hx261_1
   try clear hx262_0
   try clear hx262_1
   try clear p261
   try clear p262
   try clear q261
   try clear q262
   obtain ⟨x15_1, x264000_1, x264001_1, x264002_1, x264003_1, rfl, HA, HK1, BK260, BK263, HB⟩ := hrel
   cases gk with
   | zero => exact absurd HA.out (by simp [spec_ivEnds.l0])
   | succ k1 =>
    have H := HA.out
    clear HA
    simp only [spec_ivEnds.l0] at H
    by_cases c10 : x15_1 < (l0.length : Int)
    ·
     rw [if_pos c10] at H
     have c10b0 : decide (x15_1 < (l0.length : Int)) = true := decide_eq_true c10
     clear c10
     by_cases c11 : 0 ≤ x15_1
     ·
      rw [if_pos c11] at H
      have c11b0 : decide (0 ≤ x15_1) = true := decide_eq_true c11
      clear c11
      by_cases c12 : x15_1 < (l0.length : Int)
      ·
       rw [if_pos c12] at H
       have c12b0 : decide (x15_1 < (l0.length : Int)) = true := decide_eq_true c12
       clear c12
       replace H := Option.bind_eq_some_iff.mp H
       obtain ⟨t266, A130, H⟩ := H
       replace H : (if t266 < 0 then ((spec_dyCmp.f k1 x264002_1 x264003_1 ((rd_T27 l0 x15_1).f0) ((rd_T27 l0 x15_1).f1)).bind fun t267 => (if t267 < 0 then (spec_ivEnds.l0 k1 l0 (l0.length : Int) (wrap64 (x15_1 + 1)) ((rd_T27 l0 x15_1).f0) ((rd_T27 l0 x15_1).f1) ((rd_T27 l0 x15_1).f0) ((rd_T27 l0 x15_1).f1)) else (spec_ivEnds.l0 k1 l0 (l0.length : Int) (wrap64 (x15_1 + 1)) ((rd_T27 l0 x15_1).f0) ((rd_T27 l0 x15_1).f1) x264002_1 x264003_1))) else ((spec_dyCmp.f k1 x264002_1 x264003_1 ((rd_T27 l0 x15_1).f0) ((rd_T27 l0 x15_1).f1)).bind fun t268 => (if t268 < 0 then (spec_ivEnds.l0 k1 l0 (l0.length : Int) (wrap64 (x15_1 + 1)) x264000_1 x264001_1 ((rd_T27 l0 x15_1).f0) ((rd_T27 l0 x15_1).f1)) else (spec_ivEnds.l0 k1 l0 (l0.length : Int) (wrap64 (x15_1 + 1)) x264000_1 x264001_1 x264002_1 x264003_1)))) = some (r1, r2, r3, r4) := H
       have A13 := Aside0.mk A130
       clear A130
       by_cases c14 : t266 < 0
       ·
        rw [if_pos c14] at H
        have c14b0 : decide (t266 < 0) = true := decide_eq_true c14
        clear c14
        replace H := Option.bind_eq_some_iff.mp H
        obtain ⟨t267, A150, H⟩ := H
        replace H : (if t267 < 0 then (spec_ivEnds.l0 k1 l0 (l0.length : Int) (wrap64 (x15_1 + 1)) ((rd_T27 l0 x15_1).f0) ((rd_T27 l0 x15_1).f1) ((rd_T27 l0 x15_1).f0) ((rd_T27 l0 x15_1).f1)) else (spec_ivEnds.l0 k1 l0 (l0.length : Int) (wrap64 (x15_1 + 1)) ((rd_T27 l0 x15_1).f0) ((rd_T27 l0 x15_1).f1) x264002_1 x264003_1)) = some (r1, r2, r3, r4) := H
        have A15 := Aside0.mk A150
        clear A150
        by_cases c16 : t267 < 0
        ·
         rw [if_pos c16] at H
         have c16b0 : decide (t267 < 0) = true := decide_eq_true c16
         clear c16
         have H' := Aside0.mk H
         clear H
         have p264 : 0 ≤ (x15_1 : Int) := of_decide_eq_true (by first | (with_reducible assumption) | assumption)
         have q264 : x15_1 < (l0.length : Int) := of_decide_eq_true (by first | (with_reducible assumption) | assumption)
         obtain ⟨ad264, e264, hx264_0, hx264_1⟩ := at_T27 HR0.out x15_1 p264 q264
         obtain rfl : ad261 = ad264 := (by injection e264)
         replace hx264_0 := (HB.out.cell (World.block_lt_of_cell? w _ hx264_0)).trans hx264_0
         replace hx264_1 := (HB.out.cell (World.block_lt_of_cell? w _ hx264_1)).trans hx264_1
         replace p264 := eq_true p264
         replace q264 := eq_true q264
         go_wp2_with (first | ((with_reducible refine gate_dst (N := 5) rfl ?_); refine zbe (N := 5) (cs := #[.int .i64 0, .int .i64 0]) (t := 27) ?_; intro gb265 hg w17 hbox hb; have BK265 := Aside0.mk (hbox); have GW265 := Aside0.mk (zge (zb1 HB) hg); have GE265 := GW265; have NB260_265 := Aside0.mk (zlt BK260 hg); have NB265_260 := Aside0.mk (zgt BK260 hg); have NB263_265 := Aside0.mk (zlt BK263 hg); have NB265_263 := Aside0.mk (zgt BK263 hg); replace BK260 := Aside0.mk (zbb BK260 hb); replace BK263 := Aside0.mk (zbb BK263 hb); replace HB := Aside0.mk (below_step (zb1 HB) hb); clear hb hbox hg; have hnb18 := NB265_260.out; have hnc18 := NB260_265.out; have hnb19 := NB265_263.out; have hnc19 := NB263_265.out; have hcz20_0 : w17.cell? ⟨gb265, 0, none⟩ = some (.int .i64 0) := zc BK265 0; have hcz20_1 : w17.cell? ⟨gb265, 1, none⟩ = some (.int .i64 0) := zc BK265 1; have hfz20_0 := blk_frozen BK265.out 0; have hfz20_1 := blk_frozen BK265.out 1; have hnb21 := NB263_260.out; have hnc21 := NB260_263.out; have hcz22_0 : w17.cell? ⟨gb263, 0, none⟩ = some (.int .i64 x264000_1) := zc BK263 0; have hcz22_1 : w17.cell? ⟨gb263, 1, none⟩ = some (.int .i64 x264001_1) := zc BK263 1; have hcz22_2 : w17.cell? ⟨gb263, 2, none⟩ = some (.int .i64 x264002_1) := zc BK263 2; have hcz22_3 : w17.cell? ⟨gb263, 3, none⟩ = some (.int .i64 x264003_1) := zc BK263 3; have hfz22_0 := blk_frozen BK263.out 0; have hfz22_1 := blk_frozen BK263.out 1; have hfz22_2 := blk_frozen BK263.out 2; have hfz22_3 := blk_frozen BK263.out 3) | ((with_reducible refine gate_callee (f := 76) rfl ?_); refine goesL_ (some 22) rfl rfl Try.func76 (by kernel_rfl) rfl #[.agg #[.int .i64 ((rd_T27 l0 x15_1).f0), .int .i64 ((rd_T27 l0 x15_1).f1)], .agg #[.int .i64 x264000_1, .int .i64 x264001_1]] rfl zq6 ?_; (with_reducible refine (spec_dyCmp.calls k1 ((rd_T27 l0 x15_1).f0) ((rd_T27 l0 x15_1).f1) x264000_1 x264001_1 t266 _ A13.out).mono ?_); rintro e w23 ⟨rfl, hb⟩; refine ⟨_, rfl, ?_⟩; replace BK260 := Aside0.mk (blk_below (g := gb260) (o := .cells #[.int .i64 0, .int .i64 0, .int .i64 0, .int .i64 0] 29 (0, 0)) (zq5 BK260) hb); replace BK263 := Aside0.mk (blk_below (g := gb263) (o := .cells #[.int .i64 x264000_1, .int .i64 x264001_1, .int .i64 x264002_1, .int .i64 x264003_1] 29 (0, 0)) (zq5 BK263) hb); replace BK265 := Aside0.mk (blk_below (g := gb265) (o := .cells #[.int .i64 ((rd_T27 l0 x15_1).f0), .int .i64 ((rd_T27 l0 x15_1).f1)] 27 (0, 0)) (by (with_reducible repeat (first | refine blk_drewN ?_ _ | refine blk_drew ?_ | refine blk_alloc ?_ _)); refine blk_put (cs := #[.int .i64 ((rd_T27 l0 x15_1).f0), .int .i64 0]) ?_ 1 _ rfl; (with_reducible repeat (first | refine blk_drewN ?_ _ | refine blk_drew ?_ | refine blk_alloc ?_ _)); refine blk_put (cs := #[.int .i64 0, .int .i64 0]) ?_ 0 _ rfl; (with_reducible repeat (first | refine blk_drewN ?_ _ | refine blk_drew ?_ | refine blk_alloc ?_ _)); exact BK265.out) hb); replace HB := Aside0.mk (below_step (zb1 HB) hb); (try clear hb); (try clear hb2); (try clear hk); (try clear hi); have hcz24_0 : w23.cell? ⟨gb265, 0, none⟩ = some (.int .i64 ((rd_T27 l0 x15_1).f0)) := zc BK265 0; have hcz24_1 : w23.cell? ⟨gb265, 1, none⟩ = some (.int .i64 ((rd_T27 l0 x15_1).f1)) := zc BK265 1; have hfz24_0 := blk_frozen BK265.out 0; have hfz24_1 := blk_frozen BK265.out 1; have hcz25_0 : w23.cell? ⟨gb263, 0, none⟩ = some (.int .i64 x264000_1) := zc BK263 0; have hcz25_1 : w23.cell? ⟨gb263, 1, none⟩ = some (.int .i64 x264001_1) := zc BK263 1; have hcz25_2 : w23.cell? ⟨gb263, 2, none⟩ = some (.int .i64 x264002_1) := zc BK263 2; have hcz25_3 : w23.cell? ⟨gb263, 3, none⟩ = some (.int .i64 x264003_1) := zc BK263 3; have hfz25_0 := blk_frozen BK263.out 0; have hfz25_1 := blk_frozen BK263.out 1; have hfz25_2 := blk_frozen BK263.out 2; have hfz25_3 := blk_frozen BK263.out 3) | ((with_reducible refine gate_callee (f := 76) rfl ?_); refine goesL_ (some 29) rfl rfl Try.func76 (by kernel_rfl) rfl #[.agg #[.int .i64 x264002_1, .int .i64 x264003_1], .agg #[.int .i64 ((rd_T27 l0 x15_1).f0), .int .i64 ((rd_T27 l0 x15_1).f1)]] rfl zq6 ?_; (with_reducible refine (spec_dyCmp.calls k1 x264002_1 x264003_1 ((rd_T27 l0 x15_1).f0) ((rd_T27 l0 x15_1).f1) t267 _ A15.out).mono ?_); rintro e w26 ⟨rfl, hb⟩; refine ⟨_, rfl, ?_⟩; replace BK260 := Aside0.mk (blk_below (g := gb260) (o := .cells #[.int .i64 0, .int .i64 0, .int .i64 0, .int .i64 0] 29 (0, 0)) (zq5 BK260) hb); replace BK263 := Aside0.mk (blk_below (g := gb263) (o := .cells #[.int .i64 ((rd_T27 l0 x15_1).f0), .int .i64 ((rd_T27 l0 x15_1).f1), .int .i64 x264002_1, .int .i64 x264003_1] 29 (0, 0)) (by (with_reducible repeat (first | refine blk_drewN ?_ _ | refine blk_drew ?_ | refine blk_alloc ?_ _)); refine blk_put (cs := #[.int .i64 ((rd_T27 l0 x15_1).f0), .int .i64 x264001_1, .int .i64 x264002_1, .int .i64 x264003_1]) ?_ 1 _ rfl; (with_reducible repeat (first | refine blk_drewN ?_ _ | refine blk_drew ?_ | refine blk_alloc ?_ _)); refine blk_put (cs := #[.int .i64 x264000_1, .int .i64 x264001_1, .int .i64 x264002_1, .int .i64 x264003_1]) ?_ 0 _ rfl; (with_reducible repeat (first | refine blk_drewN ?_ _ | refine blk_drew ?_ | refine blk_alloc ?_ _)); exact BK263.out) hb); replace BK265 := Aside0.mk (blk_below (g := gb265) (o := .cells #[.int .i64 ((rd_T27 l0 x15_1).f0), .int .i64 ((rd_T27 l0 x15_1).f1)] 27 (0, 0)) (zq5 BK265) hb); replace HB := Aside0.mk (below_step (zb1 HB) hb); (try clear hb); (try clear hb2); (try clear hk); (try clear hi); have hcz27_0 : w26.cell? ⟨gb265, 0, none⟩ = some (.int .i64 ((rd_T27 l0 x15_1).f0)) := zc BK265 0; have hcz27_1 : w26.cell? ⟨gb265, 1, none⟩ = some (.int .i64 ((rd_T27 l0 x15_1).f1)) := zc BK265 1; have hfz27_0 := blk_frozen BK265.out 0; have hfz27_1 := blk_frozen BK265.out 1; have hcz28_0 : w26.cell? ⟨gb263, 0, none⟩ = some (.int .i64 ((rd_T27 l0 x15_1).f0)) := zc BK263 0; have hcz28_1 : w26.cell? ⟨gb263, 1, none⟩ = some (.int .i64 ((rd_T27 l0 x15_1).f1)) := zc BK263 1; have hcz28_2 : w26.cell? ⟨gb263, 2, none⟩ = some (.int .i64 x264002_1) := zc BK263 2; have hcz28_3 : w26.cell? ⟨gb263, 3, none⟩ = some (.int .i64 x264003_1) := zc BK263 3; have hfz28_0 := blk_frozen BK263.out 0; have hfz28_1 := blk_frozen BK263.out 1; have hfz28_2 := blk_frozen BK263.out 2; have hfz28_3 := blk_frozen BK263.out 3))
         go_roundg k1
         case measure => have := HK1.out; omega
         case rel => exact ⟨(wrap64 (x15_1 + 1)), ((rd_T27 l0 x15_1).f0), ((rd_T27 l0 x15_1).f1), ((rd_T27 l0 x15_1).f0), ((rd_T27 l0 x15_1).f1), (by first | rfl | (simp; done) | (simp [*]; done)), H', ⟨by have := HK1.out; omega⟩, ⟨zq5 BK260⟩, ⟨by (with_reducible repeat (first | refine blk_drewN ?_ _ | refine blk_drew ?_ | refine blk_alloc ?_ _)); refine blk_put (cs := #[.int .i64 ((rd_T27 l0 x15_1).f0), .int .i64 ((rd_T27 l0 x15_1).f1), .int .i64 ((rd_T27 l0 x15_1).f0), .int .i64 x264003_1]) ?_ 3 _ rfl; (with_reducible repeat (first | refine blk_drewN ?_ _ | refine blk_drew ?_ | refine blk_alloc ?_ _)); refine blk_put (cs := #[.int .i64 ((rd_T27 l0 x15_1).f0), .int .i64 ((rd_T27 l0 x15_1).f1), .int .i64 x264002_1, .int .i64 x264003_1]) ?_ 2 _ rfl; (with_reducible repeat (first | refine blk_drewN ?_ _ | refine blk_drew ?_ | refine blk_alloc ?_ _)); exact BK263.out⟩, ⟨(zb1 HB)⟩⟩
        ·
         rw [if_neg c16] at H
         have c16b0 : decide (t267 < 0) = false := decide_eq_false c16
         clear c16
         have H' := Aside0.mk H
         clear H
         have p264 : 0 ≤ (x15_1 : Int) := of_decide_eq_true (by first | (with_reducible assumption) | assumption)
         have q264 : x15_1 < (l0.length : Int) := of_decide_eq_true (by first | (with_reducible assumption) | assumption)
         obtain ⟨ad264, e264, hx264_0, hx264_1⟩ := at_T27 HR0.out x15_1 p264 q264
         obtain rfl : ad261 = ad264 := (by injection e264)
         replace hx264_0 := (HB.out.cell (World.block_lt_of_cell? w _ hx264_0)).trans hx264_0
         replace hx264_1 := (HB.out.cell (World.block_lt_of_cell? w _ hx264_1)).trans hx264_1
         replace p264 := eq_true p264
         replace q264 := eq_true q264
         go_wp2_with (first | ((with_reducible refine gate_dst (N := 5) rfl ?_); refine zbe (N := 5) (cs := #[.int .i64 0, .int .i64 0]) (t := 27) ?_; intro gb265 hg w29 hbox hb; have BK265 := Aside0.mk (hbox); have GW265 := Aside0.mk (zge (zb1 HB) hg); have GE265 := GW265; have NB260_265 := Aside0.mk (zlt BK260 hg); have NB265_260 := Aside0.mk (zgt BK260 hg); have NB263_265 := Aside0.mk (zlt BK263 hg); have NB265_263 := Aside0.mk (zgt BK263 hg); replace BK260 := Aside0.mk (zbb BK260 hb); replace BK263 := Aside0.mk (zbb BK263 hb); replace HB := Aside0.mk (below_step (zb1 HB) hb); clear hb hbox hg; have hnb30 := NB265_260.out; have hnc30 := NB260_265.out; have hnb31 := NB265_263.out; have hnc31 := NB263_265.out; have hcz32_0 : w29.cell? ⟨gb265, 0, none⟩ = some (.int .i64 0) := zc BK265 0; have hcz32_1 : w29.cell? ⟨gb265, 1, none⟩ = some (.int .i64 0) := zc BK265 1; have hfz32_0 := blk_frozen BK265.out 0; have hfz32_1 := blk_frozen BK265.out 1; have hnb33 := NB263_260.out; have hnc33 := NB260_263.out; have hcz34_0 : w29.cell? ⟨gb263, 0, none⟩ = some (.int .i64 x264000_1) := zc BK263 0; have hcz34_1 : w29.cell? ⟨gb263, 1, none⟩ = some (.int .i64 x264001_1) := zc BK263 1; have hcz34_2 : w29.cell? ⟨gb263, 2, none⟩ = some (.int .i64 x264002_1) := zc BK263 2; have hcz34_3 : w29.cell? ⟨gb263, 3, none⟩ = some (.int .i64 x264003_1) := zc BK263 3; have hfz34_0 := blk_frozen BK263.out 0; have hfz34_1 := blk_frozen BK263.out 1; have hfz34_2 := blk_frozen BK263.out 2; have hfz34_3 := blk_frozen BK263.out 3) | ((with_reducible refine gate_callee (f := 76) rfl ?_); refine goesL_ (some 22) rfl rfl Try.func76 (by kernel_rfl) rfl #[.agg #[.int .i64 ((rd_T27 l0 x15_1).f0), .int .i64 ((rd_T27 l0 x15_1).f1)], .agg #[.int .i64 x264000_1, .int .i64 x264001_1]] rfl zq6 ?_; (with_reducible refine (spec_dyCmp.calls k1 ((rd_T27 l0 x15_1).f0) ((rd_T27 l0 x15_1).f1) x264000_1 x264001_1 t266 _ A13.out).mono ?_); rintro e w35 ⟨rfl, hb⟩; refine ⟨_, rfl, ?_⟩; replace BK260 := Aside0.mk (blk_below (g := gb260) (o := .cells #[.int .i64 0, .int .i64 0, .int .i64 0, .int .i64 0] 29 (0, 0)) (zq5 BK260) hb); replace BK263 := Aside0.mk (blk_below (g := gb263) (o := .cells #[.int .i64 x264000_1, .int .i64 x264001_1, .int .i64 x264002_1, .int .i64 x264003_1] 29 (0, 0)) (zq5 BK263) hb); replace BK265 := Aside0.mk (blk_below (g := gb265) (o := .cells #[.int .i64 ((rd_T27 l0 x15_1).f0), .int .i64 ((rd_T27 l0 x15_1).f1)] 27 (0, 0)) (by (with_reducible repeat (first | refine blk_drewN ?_ _ | refine blk_drew ?_ | refine blk_alloc ?_ _)); refine blk_put (cs := #[.int .i64 ((rd_T27 l0 x15_1).f0), .int .i64 0]) ?_ 1 _ rfl; (with_reducible repeat (first | refine blk_drewN ?_ _ | refine blk_drew ?_ | refine blk_alloc ?_ _)); refine blk_put (cs := #[.int .i64 0, .int .i64 0]) ?_ 0 _ rfl; (with_reducible repeat (first | refine blk_drewN ?_ _ | refine blk_drew ?_ | refine blk_alloc ?_ _)); exact BK265.out) hb); replace HB := Aside0.mk (below_step (zb1 HB) hb); (try clear hb); (try clear hb2); (try clear hk); (try clear hi); have hcz36_0 : w35.cell? ⟨gb265, 0, none⟩ = some (.int .i64 ((rd_T27 l0 x15_1).f0)) := zc BK265 0; have hcz36_1 : w35.cell? ⟨gb265, 1, none⟩ = some (.int .i64 ((rd_T27 l0 x15_1).f1)) := zc BK265 1; have hfz36_0 := blk_frozen BK265.out 0; have hfz36_1 := blk_frozen BK265.out 1; have hcz37_0 : w35.cell? ⟨gb263, 0, none⟩ = some (.int .i64 x264000_1) := zc BK263 0; have hcz37_1 : w35.cell? ⟨gb263, 1, none⟩ = some (.int .i64 x264001_1) := zc BK263 1; have hcz37_2 : w35.cell? ⟨gb263, 2, none⟩ = some (.int .i64 x264002_1) := zc BK263 2; have hcz37_3 : w35.cell? ⟨gb263, 3, none⟩ = some (.int .i64 x264003_1) := zc BK263 3; have hfz37_0 := blk_frozen BK263.out 0; have hfz37_1 := blk_frozen BK263.out 1; have hfz37_2 := blk_frozen BK263.out 2; have hfz37_3 := blk_frozen BK263.out 3) | ((with_reducible refine gate_callee (f := 76) rfl ?_); refine goesL_ (some 29) rfl rfl Try.func76 (by kernel_rfl) rfl #[.agg #[.int .i64 x264002_1, .int .i64 x264003_1], .agg #[.int .i64 ((rd_T27 l0 x15_1).f0), .int .i64 ((rd_T27 l0 x15_1).f1)]] rfl zq6 ?_; (with_reducible refine (spec_dyCmp.calls k1 x264002_1 x264003_1 ((rd_T27 l0 x15_1).f0) ((rd_T27 l0 x15_1).f1) t267 _ A15.out).mono ?_); rintro e w38 ⟨rfl, hb⟩; refine ⟨_, rfl, ?_⟩; replace BK260 := Aside0.mk (blk_below (g := gb260) (o := .cells #[.int .i64 0, .int .i64 0, .int .i64 0, .int .i64 0] 29 (0, 0)) (zq5 BK260) hb); replace BK263 := Aside0.mk (blk_below (g := gb263) (o := .cells #[.int .i64 ((rd_T27 l0 x15_1).f0), .int .i64 ((rd_T27 l0 x15_1).f1), .int .i64 x264002_1, .int .i64 x264003_1] 29 (0, 0)) (by (with_reducible repeat (first | refine blk_drewN ?_ _ | refine blk_drew ?_ | refine blk_alloc ?_ _)); refine blk_put (cs := #[.int .i64 ((rd_T27 l0 x15_1).f0), .int .i64 x264001_1, .int .i64 x264002_1, .int .i64 x264003_1]) ?_ 1 _ rfl; (with_reducible repeat (first | refine blk_drewN ?_ _ | refine blk_drew ?_ | refine blk_alloc ?_ _)); refine blk_put (cs := #[.int .i64 x264000_1, .int .i64 x264001_1, .int .i64 x264002_1, .int .i64 x264003_1]) ?_ 0 _ rfl; (with_reducible repeat (first | refine blk_drewN ?_ _ | refine blk_drew ?_ | refine blk_alloc ?_ _)); exact BK263.out) hb); replace BK265 := Aside0.mk (blk_below (g := gb265) (o := .cells #[.int .i64 ((rd_T27 l0 x15_1).f0), .int .i64 ((rd_T27 l0 x15_1).f1)] 27 (0, 0)) (zq5 BK265) hb); replace HB := Aside0.mk (below_step (zb1 HB) hb); (try clear hb); (try clear hb2); (try clear hk); (try clear hi)))
         go_roundg k1
         case measure => have := HK1.out; omega
         case rel => exact ⟨(wrap64 (x15_1 + 1)), ((rd_T27 l0 x15_1).f0), ((rd_T27 l0 x15_1).f1), (x264002_1), (x264003_1), (by first | rfl | (simp; done) | (simp [*]; done)), H', ⟨by have := HK1.out; omega⟩, ⟨by (with_reducible repeat (first | refine blk_drewN ?_ _ | refine blk_drew ?_ | refine blk_alloc ?_ _)); exact BK260.out⟩, ⟨by (with_reducible repeat (first | refine blk_drewN ?_ _ | refine blk_drew ?_ | refine blk_alloc ?_ _)); exact BK263.out⟩, ⟨(zb1 HB)⟩⟩
       ·
        rw [if_neg c14] at H
        have c14b0 : decide (t266 < 0) = false := decide_eq_false c14
        clear c14
        replace H := Option.bind_eq_some_iff.mp H
        obtain ⟨t268, A390, H⟩ := H
        replace H : (if t268 < 0 then (spec_ivEnds.l0 k1 l0 (l0.length : Int) (wrap64 (x15_1 + 1)) x264000_1 x264001_1 ((rd_T27 l0 x15_1).f0) ((rd_T27 l0 x15_1).f1)) else (spec_ivEnds.l0 k1 l0 (l0.length : Int) (wrap64 (x15_1 + 1)) x264000_1 x264001_1 x264002_1 x264003_1)) = some (r1, r2, r3, r4) := H
        have A39 := Aside0.mk A390
        clear A390
        by_cases c40 : t268 < 0
        ·
         rw [if_pos c40] at H
         have c40b0 : decide (t268 < 0) = true := decide_eq_true c40
         clear c40
         have H' := Aside0.mk H
         clear H
         have p264 : 0 ≤ (x15_1 : Int) := of_decide_eq_true (by first | (with_reducible assumption) | assumption)
         have q264 : x15_1 < (l0.length : Int) := of_decide_eq_true (by first | (with_reducible assumption) | assumption)
         obtain ⟨ad264, e264, hx264_0, hx264_1⟩ := at_T27 HR0.out x15_1 p264 q264
         obtain rfl : ad261 = ad264 := (by injection e264)
         replace hx264_0 := (HB.out.cell (World.block_lt_of_cell? w _ hx264_0)).trans hx264_0
         replace hx264_1 := (HB.out.cell (World.block_lt_of_cell? w _ hx264_1)).trans hx264_1
         replace p264 := eq_true p264
         replace q264 := eq_true q264
         go_wp2_with (first | ((with_reducible refine gate_dst (N := 5) rfl ?_); refine zbe (N := 5) (cs := #[.int .i64 0, .int .i64 0]) (t := 27) ?_; intro gb265 hg w41 hbox hb; have BK265 := Aside0.mk (hbox); have GW265 := Aside0.mk (zge (zb1 HB) hg); have GE265 := GW265; have NB260_265 := Aside0.mk (zlt BK260 hg); have NB265_260 := Aside0.mk (zgt BK260 hg); have NB263_265 := Aside0.mk (zlt BK263 hg); have NB265_263 := Aside0.mk (zgt BK263 hg); replace BK260 := Aside0.mk (zbb BK260 hb); replace BK263 := Aside0.mk (zbb BK263 hb); replace HB := Aside0.mk (below_step (zb1 HB) hb); clear hb hbox hg; have hnb42 := NB265_260.out; have hnc42 := NB260_265.out; have hnb43 := NB265_263.out; have hnc43 := NB263_265.out; have hcz44_0 : w41.cell? ⟨gb265, 0, none⟩ = some (.int .i64 0) := zc BK265 0; have hcz44_1 : w41.cell? ⟨gb265, 1, none⟩ = some (.int .i64 0) := zc BK265 1; have hfz44_0 := blk_frozen BK265.out 0; have hfz44_1 := blk_frozen BK265.out 1; have hnb45 := NB263_260.out; have hnc45 := NB260_263.out; have hcz46_0 : w41.cell? ⟨gb263, 0, none⟩ = some (.int .i64 x264000_1) := zc BK263 0; have hcz46_1 : w41.cell? ⟨gb263, 1, none⟩ = some (.int .i64 x264001_1) := zc BK263 1; have hcz46_2 : w41.cell? ⟨gb263, 2, none⟩ = some (.int .i64 x264002_1) := zc BK263 2; have hcz46_3 : w41.cell? ⟨gb263, 3, none⟩ = some (.int .i64 x264003_1) := zc BK263 3; have hfz46_0 := blk_frozen BK263.out 0; have hfz46_1 := blk_frozen BK263.out 1; have hfz46_2 := blk_frozen BK263.out 2; have hfz46_3 := blk_frozen BK263.out 3) | ((with_reducible refine gate_callee (f := 76) rfl ?_); refine goesL_ (some 22) rfl rfl Try.func76 (by kernel_rfl) rfl #[.agg #[.int .i64 ((rd_T27 l0 x15_1).f0), .int .i64 ((rd_T27 l0 x15_1).f1)], .agg #[.int .i64 x264000_1, .int .i64 x264001_1]] rfl zq6 ?_; (with_reducible refine (spec_dyCmp.calls k1 ((rd_T27 l0 x15_1).f0) ((rd_T27 l0 x15_1).f1) x264000_1 x264001_1 t266 _ A13.out).mono ?_); rintro e w47 ⟨rfl, hb⟩; refine ⟨_, rfl, ?_⟩; replace BK260 := Aside0.mk (blk_below (g := gb260) (o := .cells #[.int .i64 0, .int .i64 0, .int .i64 0, .int .i64 0] 29 (0, 0)) (zq5 BK260) hb); replace BK263 := Aside0.mk (blk_below (g := gb263) (o := .cells #[.int .i64 x264000_1, .int .i64 x264001_1, .int .i64 x264002_1, .int .i64 x264003_1] 29 (0, 0)) (zq5 BK263) hb); replace BK265 := Aside0.mk (blk_below (g := gb265) (o := .cells #[.int .i64 ((rd_T27 l0 x15_1).f0), .int .i64 ((rd_T27 l0 x15_1).f1)] 27 (0, 0)) (by (with_reducible repeat (first | refine blk_drewN ?_ _ | refine blk_drew ?_ | refine blk_alloc ?_ _)); refine blk_put (cs := #[.int .i64 ((rd_T27 l0 x15_1).f0), .int .i64 0]) ?_ 1 _ rfl; (with_reducible repeat (first | refine blk_drewN ?_ _ | refine blk_drew ?_ | refine blk_alloc ?_ _)); refine blk_put (cs := #[.int .i64 0, .int .i64 0]) ?_ 0 _ rfl; (with_reducible repeat (first | refine blk_drewN ?_ _ | refine blk_drew ?_ | refine blk_alloc ?_ _)); exact BK265.out) hb); replace HB := Aside0.mk (below_step (zb1 HB) hb); (try clear hb); (try clear hb2); (try clear hk); (try clear hi); have hcz48_0 : w47.cell? ⟨gb263, 0, none⟩ = some (.int .i64 x264000_1) := zc BK263 0; have hcz48_1 : w47.cell? ⟨gb263, 1, none⟩ = some (.int .i64 x264001_1) := zc BK263 1; have hcz48_2 : w47.cell? ⟨gb263, 2, none⟩ = some (.int .i64 x264002_1) := zc BK263 2; have hcz48_3 : w47.cell? ⟨gb263, 3, none⟩ = some (.int .i64 x264003_1) := zc BK263 3; have hfz48_0 := blk_frozen BK263.out 0; have hfz48_1 := blk_frozen BK263.out 1; have hfz48_2 := blk_frozen BK263.out 2; have hfz48_3 := blk_frozen BK263.out 3; have hcz49_0 : w47.cell? ⟨gb265, 0, none⟩ = some (.int .i64 ((rd_T27 l0 x15_1).f0)) := zc BK265 0; have hcz49_1 : w47.cell? ⟨gb265, 1, none⟩ = some (.int .i64 ((rd_T27 l0 x15_1).f1)) := zc BK265 1; have hfz49_0 := blk_frozen BK265.out 0; have hfz49_1 := blk_frozen BK265.out 1) | ((with_reducible refine gate_callee (f := 76) rfl ?_); refine goesL_ (some 29) rfl rfl Try.func76 (by kernel_rfl) rfl #[.agg #[.int .i64 x264002_1, .int .i64 x264003_1], .agg #[.int .i64 ((rd_T27 l0 x15_1).f0), .int .i64 ((rd_T27 l0 x15_1).f1)]] rfl zq6 ?_; (with_reducible refine (spec_dyCmp.calls k1 x264002_1 x264003_1 ((rd_T27 l0 x15_1).f0) ((rd_T27 l0 x15_1).f1) t268 _ A39.out).mono ?_); rintro e w50 ⟨rfl, hb⟩; refine ⟨_, rfl, ?_⟩; replace BK260 := Aside0.mk (zbb BK260 hb); replace BK263 := Aside0.mk (zbb BK263 hb); replace BK265 := Aside0.mk (zbb BK265 hb); replace HB := Aside0.mk (below_step (zb1 HB) hb); (try clear hb); (try clear hb2); (try clear hk); (try clear hi); have hcz51_0 : w50.cell? ⟨gb265, 0, none⟩ = some (.int .i64 ((rd_T27 l0 x15_1).f0)) := zc BK265 0; have hcz51_1 : w50.cell? ⟨gb265, 1, none⟩ = some (.int .i64 ((rd_T27 l0 x15_1).f1)) := zc BK265 1; have hfz51_0 := blk_frozen BK265.out 0; have hfz51_1 := blk_frozen BK265.out 1; have hcz52_0 : w50.cell? ⟨gb263, 0, none⟩ = some (.int .i64 x264000_1) := zc BK263 0; have hcz52_1 : w50.cell? ⟨gb263, 1, none⟩ = some (.int .i64 x264001_1) := zc BK263 1; have hcz52_2 : w50.cell? ⟨gb263, 2, none⟩ = some (.int .i64 x264002_1) := zc BK263 2; have hcz52_3 : w50.cell? ⟨gb263, 3, none⟩ = some (.int .i64 x264003_1) := zc BK263 3; have hfz52_0 := blk_frozen BK263.out 0; have hfz52_1 := blk_frozen BK263.out 1; have hfz52_2 := blk_frozen BK263.out 2; have hfz52_3 := blk_frozen BK263.out 3))
         go_roundg k1
         case measure => have := HK1.out; omega
         case rel => exact ⟨(wrap64 (x15_1 + 1)), (x264000_1), (x264001_1), ((rd_T27 l0 x15_1).f0), ((rd_T27 l0 x15_1).f1), (by first | rfl | (simp; done) | (simp [*]; done)), H', ⟨by have := HK1.out; omega⟩, ⟨zq5 BK260⟩, ⟨by (with_reducible repeat (first | refine blk_drewN ?_ _ | refine blk_drew ?_ | refine blk_alloc ?_ _)); refine blk_put (cs := #[.int .i64 x264000_1, .int .i64 x264001_1, .int .i64 ((rd_T27 l0 x15_1).f0), .int .i64 x264003_1]) ?_ 3 _ rfl; (with_reducible repeat (first | refine blk_drewN ?_ _ | refine blk_drew ?_ | refine blk_alloc ?_ _)); refine blk_put (cs := #[.int .i64 x264000_1, .int .i64 x264001_1, .int .i64 x264002_1, .int .i64 x264003_1]) ?_ 2 _ rfl; (with_reducible repeat (first | refine blk_drewN ?_ _ | refine blk_drew ?_ | refine blk_alloc ?_ _)); exact BK263.out⟩, ⟨(zb1 HB)⟩⟩
        ·
         rw [if_neg c40] at H
         have c40b0 : decide (t268 < 0) = false := decide_eq_false c40
         clear c40
         have H' := Aside0.mk H
         clear H
         have p264 : 0 ≤ (x15_1 : Int) := of_decide_eq_true (by first | (with_reducible assumption) | assumption)
         have q264 : x15_1 < (l0.length : Int) := of_decide_eq_true (by first | (with_reducible assumption) | assumption)
         obtain ⟨ad264, e264, hx264_0, hx264_1⟩ := at_T27 HR0.out x15_1 p264 q264
         obtain rfl : ad261 = ad264 := (by injection e264)
         replace hx264_0 := (HB.out.cell (World.block_lt_of_cell? w _ hx264_0)).trans hx264_0
         replace hx264_1 := (HB.out.cell (World.block_lt_of_cell? w _ hx264_1)).trans hx264_1
         replace p264 := eq_true p264
         replace q264 := eq_true q264
         go_wp2_with (first | ((with_reducible refine gate_dst (N := 5) rfl ?_); refine zbe (N := 5) (cs := #[.int .i64 0, .int .i64 0]) (t := 27) ?_; intro gb265 hg w53 hbox hb; have BK265 := Aside0.mk (hbox); have GW265 := Aside0.mk (zge (zb1 HB) hg); have GE265 := GW265; have NB260_265 := Aside0.mk (zlt BK260 hg); have NB265_260 := Aside0.mk (zgt BK260 hg); have NB263_265 := Aside0.mk (zlt BK263 hg); have NB265_263 := Aside0.mk (zgt BK263 hg); replace BK260 := Aside0.mk (zbb BK260 hb); replace BK263 := Aside0.mk (zbb BK263 hb); replace HB := Aside0.mk (below_step (zb1 HB) hb); clear hb hbox hg; have hnb54 := NB265_260.out; have hnc54 := NB260_265.out; have hnb55 := NB265_263.out; have hnc55 := NB263_265.out; have hcz56_0 : w53.cell? ⟨gb265, 0, none⟩ = some (.int .i64 0) := zc BK265 0; have hcz56_1 : w53.cell? ⟨gb265, 1, none⟩ = some (.int .i64 0) := zc BK265 1; have hfz56_0 := blk_frozen BK265.out 0; have hfz56_1 := blk_frozen BK265.out 1; have hnb57 := NB263_260.out; have hnc57 := NB260_263.out; have hcz58_0 : w53.cell? ⟨gb263, 0, none⟩ = some (.int .i64 x264000_1) := zc BK263 0; have hcz58_1 : w53.cell? ⟨gb263, 1, none⟩ = some (.int .i64 x264001_1) := zc BK263 1; have hcz58_2 : w53.cell? ⟨gb263, 2, none⟩ = some (.int .i64 x264002_1) := zc BK263 2; have hcz58_3 : w53.cell? ⟨gb263, 3, none⟩ = some (.int .i64 x264003_1) := zc BK263 3; have hfz58_0 := blk_frozen BK263.out 0; have hfz58_1 := blk_frozen BK263.out 1; have hfz58_2 := blk_frozen BK263.out 2; have hfz58_3 := blk_frozen BK263.out 3) | ((with_reducible refine gate_callee (f := 76) rfl ?_); refine goesL_ (some 22) rfl rfl Try.func76 (by kernel_rfl) rfl #[.agg #[.int .i64 ((rd_T27 l0 x15_1).f0), .int .i64 ((rd_T27 l0 x15_1).f1)], .agg #[.int .i64 x264000_1, .int .i64 x264001_1]] rfl zq6 ?_; (with_reducible refine (spec_dyCmp.calls k1 ((rd_T27 l0 x15_1).f0) ((rd_T27 l0 x15_1).f1) x264000_1 x264001_1 t266 _ A13.out).mono ?_); rintro e w59 ⟨rfl, hb⟩; refine ⟨_, rfl, ?_⟩; replace BK260 := Aside0.mk (blk_below (g := gb260) (o := .cells #[.int .i64 0, .int .i64 0, .int .i64 0, .int .i64 0] 29 (0, 0)) (zq5 BK260) hb); replace BK263 := Aside0.mk (blk_below (g := gb263) (o := .cells #[.int .i64 x264000_1, .int .i64 x264001_1, .int .i64 x264002_1, .int .i64 x264003_1] 29 (0, 0)) (zq5 BK263) hb); replace BK265 := Aside0.mk (blk_below (g := gb265) (o := .cells #[.int .i64 ((rd_T27 l0 x15_1).f0), .int .i64 ((rd_T27 l0 x15_1).f1)] 27 (0, 0)) (by (with_reducible repeat (first | refine blk_drewN ?_ _ | refine blk_drew ?_ | refine blk_alloc ?_ _)); refine blk_put (cs := #[.int .i64 ((rd_T27 l0 x15_1).f0), .int .i64 0]) ?_ 1 _ rfl; (with_reducible repeat (first | refine blk_drewN ?_ _ | refine blk_drew ?_ | refine blk_alloc ?_ _)); refine blk_put (cs := #[.int .i64 0, .int .i64 0]) ?_ 0 _ rfl; (with_reducible repeat (first | refine blk_drewN ?_ _ | refine blk_drew ?_ | refine blk_alloc ?_ _)); exact BK265.out) hb); replace HB := Aside0.mk (below_step (zb1 HB) hb); (try clear hb); (try clear hb2); (try clear hk); (try clear hi); have hcz60_0 : w59.cell? ⟨gb263, 0, none⟩ = some (.int .i64 x264000_1) := zc BK263 0; have hcz60_1 : w59.cell? ⟨gb263, 1, none⟩ = some (.int .i64 x264001_1) := zc BK263 1; have hcz60_2 : w59.cell? ⟨gb263, 2, none⟩ = some (.int .i64 x264002_1) := zc BK263 2; have hcz60_3 : w59.cell? ⟨gb263, 3, none⟩ = some (.int .i64 x264003_1) := zc BK263 3; have hfz60_0 := blk_frozen BK263.out 0; have hfz60_1 := blk_frozen BK263.out 1; have hfz60_2 := blk_frozen BK263.out 2; have hfz60_3 := blk_frozen BK263.out 3; have hcz61_0 : w59.cell? ⟨gb265, 0, none⟩ = some (.int .i64 ((rd_T27 l0 x15_1).f0)) := zc BK265 0; have hcz61_1 : w59.cell? ⟨gb265, 1, none⟩ = some (.int .i64 ((rd_T27 l0 x15_1).f1)) := zc BK265 1; have hfz61_0 := blk_frozen BK265.out 0; have hfz61_1 := blk_frozen BK265.out 1) | ((with_reducible refine gate_callee (f := 76) rfl ?_); refine goesL_ (some 29) rfl rfl Try.func76 (by kernel_rfl) rfl #[.agg #[.int .i64 x264002_1, .int .i64 x264003_1], .agg #[.int .i64 ((rd_T27 l0 x15_1).f0), .int .i64 ((rd_T27 l0 x15_1).f1)]] rfl zq6 ?_; (with_reducible refine (spec_dyCmp.calls k1 x264002_1 x264003_1 ((rd_T27 l0 x15_1).f0) ((rd_T27 l0 x15_1).f1) t268 _ A39.out).mono ?_); rintro e w62 ⟨rfl, hb⟩; refine ⟨_, rfl, ?_⟩; replace BK260 := Aside0.mk (zbb BK260 hb); replace BK263 := Aside0.mk (zbb BK263 hb); replace BK265 := Aside0.mk (zbb BK265 hb); replace HB := Aside0.mk (below_step (zb1 HB) hb); (try clear hb); (try clear hb2); (try clear hk); (try clear hi)))
         go_roundg k1
         case measure => have := HK1.out; omega
         case rel => exact ⟨(wrap64 (x15_1 + 1)), (x264000_1), (x264001_1), (x264002_1), (x264003_1), (by first | rfl | (simp; done) | (simp [*]; done)), H', ⟨by have := HK1.out; omega⟩, ⟨by (with_reducible repeat (first | refine blk_drewN ?_ _ | refine blk_drew ?_ | refine blk_alloc ?_ _)); exact BK260.out⟩, ⟨by (with_reducible repeat (first | refine blk_drewN ?_ _ | refine blk_drew ?_ | refine blk_alloc ?_ _)); exact BK263.out⟩, ⟨(zb1 HB)⟩⟩
      ·
       rw [if_neg c12] at H
       exact absurd H (by simp)
     ·
      rw [if_neg c11] at H
      exact absurd H (by simp)
    ·
     rw [if_neg c10] at H
     have c10b0 : decide (x15_1 < (l0.length : Int)) = false := decide_eq_false c10
     clear c10
     simp only [Option.some.injEq, Prod.mk.injEq] at H
     obtain ⟨rfl, rfl, rfl, rfl⟩ := H
     have hnb63 := NB263_260.out
     have hnc63 := NB260_263.out
     have hcz64_0 : wr.cell? ⟨gb263, 0, none⟩ = some (.int .i64 x264000_1) := zc BK263 0
     have hcz64_1 : wr.cell? ⟨gb263, 1, none⟩ = some (.int .i64 x264001_1) := zc BK263 1
     have hcz64_2 : wr.cell? ⟨gb263, 2, none⟩ = some (.int .i64 x264002_1) := zc BK263 2
     have hcz64_3 : wr.cell? ⟨gb263, 3, none⟩ = some (.int .i64 x264003_1) := zc BK263 3
     have hfz64_0 := blk_frozen BK263.out 0
     have hfz64_1 := blk_frozen BK263.out 1
     have hfz64_2 := blk_frozen BK263.out 2
     have hfz64_3 := blk_frozen BK263.out 3
     have hcz65_0 : wr.cell? ⟨gb260, 0, none⟩ = some (.int .i64 0) := zc BK260 0
     have hcz65_1 : wr.cell? ⟨gb260, 1, none⟩ = some (.int .i64 0) := zc BK260 1
     have hcz65_2 : wr.cell? ⟨gb260, 2, none⟩ = some (.int .i64 0) := zc BK260 2
     have hcz65_3 : wr.cell? ⟨gb260, 3, none⟩ = some (.int .i64 0) := zc BK260 3
     have hfz65_0 := blk_frozen BK260.out 0
     have hfz65_1 := blk_frozen BK260.out 1
     have hfz65_2 := blk_frozen BK260.out 2
     have hfz65_3 := blk_frozen BK260.out 3
     go_wp2
     refine bodyPost_ret (results_cell_row rfl _ _ gb260 29 #[.int .i64 x264000_1, .int .i64 x264001_1, .int .i64 x264002_1, .int .i64 x264003_1] (0, 0) _ rfl (by (with_reducible repeat (first | refine blk_drewN ?_ _ | refine blk_drew ?_ | refine blk_alloc ?_ _)); refine blk_put (cs := #[.int .i64 x264000_1, .int .i64 x264001_1, .int .i64 x264002_1, .int .i64 0]) ?_ 3 _ rfl; (with_reducible repeat (first | refine blk_drewN ?_ _ | refine blk_drew ?_ | refine blk_alloc ?_ _)); refine blk_put (cs := #[.int .i64 x264000_1, .int .i64 x264001_1, .int .i64 0, .int .i64 0]) ?_ 2 _ rfl; (with_reducible repeat (first | refine blk_drewN ?_ _ | refine blk_drew ?_ | refine blk_alloc ?_ _)); refine blk_put (cs := #[.int .i64 x264000_1, .int .i64 0, .int .i64 0, .int .i64 0]) ?_ 1 _ rfl; (with_reducible repeat (first | refine blk_drewN ?_ _ | refine blk_drew ?_ | refine blk_alloc ?_ _)); refine blk_put (cs := #[.int .i64 0, .int .i64 0, .int .i64 0, .int .i64 0]) ?_ 0 _ rfl; (with_reducible repeat (first | refine blk_drewN ?_ _ | refine blk_drew ?_ | refine blk_alloc ?_ _)); exact BK260.out) Try.underlying29 rfl (by kernel_rfl)) rfl ?_
     exact ⟨by first | rfl | (simp [errW_none, errW_some] <;> rfl) | (simp [*, errW_none, errW_some] <;> rfl), (zb1 HB)⟩
 ·
  rw [if_neg c2] at H
  exact absurd H (by simp)
end Go.Proofs.Ytinpcalgdiigiaa.PD
