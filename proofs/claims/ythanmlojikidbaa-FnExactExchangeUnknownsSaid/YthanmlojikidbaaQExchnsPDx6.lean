-- By wip/mk/drv.py
import Derived.Test.YthanmlojikidbaaQExchnsPDx0
import Derived.Test.YthanmlojikidbaaQExchnsPDx1
import Derived.Test.YthanmlojikidbaaQExchnsPDx2
namespace Go.Proofs.Ythanmlojikidbaa.PD
open Go.RowKit Go.Proofs.YthanmlojikidbaaW.PrintWords Go.Proofs.YthanmlojikidbaaW.PrintLast Go.Proofs.YthanmlojikidbaaW.PrintMore
attribute [local go_sem] max2_int min2_int max_two min_two max_three min_three max_four min_four
set_option linter.unusedVariables false
set_option linter.unusedSimpArgs false
/-! ### spec_poPut: function 72 -/
def spec_poPut.T2 : Bool × List (List Nat × List Nat) := (true, [([], []), ([], []), ([1], [1]), ([0, 2], [0, 2]), ([3], [3]), ([4], [4]), ([4], [4]), ([5, 6, 4], [4, 5, 6]), ([7, 4], [4, 7]), ([4], [4]), ([8, 9, 4, 4], [4, 8, 9]), ([10, 4], [4, 10]), ([4, 11], [4, 11])])
def spec_poPut.B2 : List Nat := [0, 0, 2, 7, 15, 31, 31, 127, 255, 31, 1023, 2047, 4095]
theorem spec_poPut.tab2 : rtab .any (opsOf Try.f72 2) = spec_poPut.T2 := by kernel_rfl
theorem spec_poPut.bits2 : waitsOk spec_poPut.T2.2 spec_poPut.B2 = true := by kernel_rfl
def spec_poPut.T5 : Bool × List (List Nat × List Nat) := (true, [([], []), ([], []), ([1], [1]), ([0, 2], [0, 2]), ([3], [3]), ([4], [4]), ([4], [4]), ([5, 6, 4], [4, 5, 6]), ([7, 4], [4, 7]), ([4], [4]), ([8, 9, 4, 4], [4, 8, 9]), ([10, 4], [4, 10]), ([4, 11], [4, 11])])
def spec_poPut.B5 : List Nat := [0, 0, 2, 7, 15, 31, 31, 127, 255, 31, 1023, 2047, 4095]
theorem spec_poPut.tab5 : rtab .any (opsOf Try.f72 5) = spec_poPut.T5 := by kernel_rfl
theorem spec_poPut.bits5 : waitsOk spec_poPut.T5.2 spec_poPut.B5 = true := by kernel_rfl
def spec_poPut.T6 : Bool × List (List Nat × List Nat) := (true, [([], []), ([0], [0]), ([], []), ([], []), ([2, 3], [2, 3]), ([4], [4]), ([5], [5]), ([1, 6], [1, 6]), ([0, 1, 2, 3, 4, 5, 6, 7], []), ([8, 7, 0, 1, 2, 3, 4, 5, 6, 7], [7, 8])])
def spec_poPut.B6 : List Nat := [0, 1, 0, 0, 12, 28, 60, 127, 255, 511]
theorem spec_poPut.tab6 : rtab .any (opsOf Try.f72 6) = spec_poPut.T6 := by kernel_rfl
theorem spec_poPut.bits6 : waitsOk spec_poPut.T6.2 spec_poPut.B6 = true := by kernel_rfl
set_option maxHeartbeats 8000000 in
set_option maxRecDepth 100000 in
theorem spec_poPut.calls (k : Nat) (A0 : Option Addr) (c0 : Nat) (l0 : List (S51)) (a1_0 : Int) (a1_1 : Int) (a1_2 : Int) (a1_3 : Int) (r : List (S51)) (w : World) (hr0 : Kd.C k51 w A0 l0.length l0) (hc0 : l0.length ≤ c0) (h : spec_poPut.f k l0 a1_0 a1_1 a1_2 a1_3 = some r) :
  Calls Try.prog 72 #[.slice A0 l0.length c0, .agg #[.int .i64 a1_0, .int .i64 a1_1, .int .i64 a1_2, .int .i64 a1_3]] w fun e w' => ∃ v0_ : Value, e = .returned (v0_) ∧ Kd.R k51 51 w' w.heap.size (fun _ => True) v0_ r ∧ Below w.heap.size w w' := by
 have hu51 := Try.underlying51
 have HR0 := Aside0.mk hr0
 have HC0 := Aside0.mk hc0
 clear hr0 hc0
 have HB := Aside0.mk (Below.refl w.heap.size w)
 have H : (spec_poPut.l0 k l0 0 a1_0 a1_1 a1_2 a1_3) = some r := h
 clear h
 have HC3 := Aside0.mk H
 clear H
 go_enter Try.func72, Try.ntmps72
 go_upto_block 0 with (first | ((with_reducible refine gate_dst (N := 3) rfl ?_); refine zbe (N := 3) (cs := #[.int .i64 a1_0, .int .i64 a1_1, .int .i64 a1_2, .int .i64 a1_3]) (t := 51) ?_; intro gb122 hg w4 hbox hb; have BK122 := Aside0.mk (hbox); have GW122 := Aside0.mk (zge (zb0 HB) hg); have GE122 := GW122; replace HB := Aside0.mk (below_step (zb0 HB) hb); clear hb hbox hg))
 (try simp only [Act.put, List.setIfInBounds_toArray, List.set_cons_zero, List.set_cons_succ])
 go_cut [5] (fun v5 wc => ∃ (kq : Nat) (x5_2 : Int), v5 = .int .i64 x5_2 ∧ Aside0 (spec_poPut.j1 kq l0 x5_2 a1_0 a1_1 a1_2 a1_3 = some r) ∧ Aside0 (kq ≤ k) ∧ Aside0 (wc.heap[gb122]? = some (.cells #[.int .i64 a1_0, .int .i64 a1_1, .int .i64 a1_2, .int .i64 a1_3] 51 (0, 0))) ∧ Aside0 (Below w.heap.size w wc))
 case first =>
  have H := HC3.out
  clear HC3
  have H' := Aside0.mk H
  clear H
  go_wp2
  go_loopg [5] k (fun kq v5 w' => ∃ (x5_1 : Int), v5 = .int .i64 x5_1 ∧ Aside0 (spec_poPut.l0 kq l0 x5_1 a1_0 a1_1 a1_2 a1_3 = some r) ∧ Aside0 (kq ≤ k) ∧ Aside0 (w'.heap[gb122]? = some (.cells #[.int .i64 a1_0, .int .i64 a1_1, .int .i64 a1_2, .int .i64 a1_3] 51 (0, 0))) ∧ Aside0 (Below w.heap.size w w'))
  case atStart => exact ⟨(0), (by first | rfl | (simp; done) | (simp [*]; done)), H', ⟨Nat.le_refl _⟩, ⟨by (with_reducible repeat (first | refine blk_drewN ?_ _ | refine blk_drew ?_ | refine blk_alloc ?_ _)); exact BK122.out⟩, ⟨(zb1 HB)⟩⟩
  case round =>
   clear H'
   try clear p2
   obtain ⟨x5_1, rfl, HA, HK1, BK122, HB⟩ := hrel
   cases gk with
   | zero => exact absurd HA.out (by simp [spec_poPut.l0])
   | succ k1 =>
    have H := HA.out
    clear HA
    simp only [spec_poPut.l0] at H
    by_cases c5 : x5_1 < (l0.length : Int)
    ·
     rw [if_pos c5] at H
     have c5b0 : decide (x5_1 < (l0.length : Int)) = true := decide_eq_true c5
     clear c5
     (first | rw [c5b0] | (simp only [i64_w, i32_w]; rw [c5b0]) | skip)
     by_cases c6 : 0 ≤ x5_1
     ·
      rw [if_pos c6] at H
      have c6b0 : decide (0 ≤ x5_1) = true := decide_eq_true c6
      clear c6
      replace H := Option.bind_eq_some_iff.mp H
      obtain ⟨t124, A70, H⟩ := H
      replace H : (if t124 < 0 then (spec_poPut.l0 k1 l0 (wrap64 (x5_1 + 1)) a1_0 a1_1 a1_2 a1_3) else (spec_poPut.j1 k1 l0 x5_1 a1_0 a1_1 a1_2 a1_3)) = some r := H
      have A7 := Aside0.mk A70
      clear A70
      by_cases c8 : t124 < 0
      ·
       rw [if_pos c8] at H
       have c8b0 : decide (t124 < 0) = true := decide_eq_true c8
       clear c8
       have H' := Aside0.mk H
       clear H
       try go_wp2
       replace BK122 := Aside0.mk (blk_drew BK122.out); replace HB := Aside0.mk (below_drew1 HB.out)
       have p123 : 0 ≤ (x5_1 : Int) := of_decide_eq_true (by first | (with_reducible assumption) | assumption)
       have q123 : x5_1 < (l0.length : Int) := of_decide_eq_true (by first | (with_reducible assumption) | assumption)
       obtain ⟨ad123, e123, hx123_0, hx123_1, hx123_2, hx123_3⟩ := at_T51 HR0.out x5_1 p123 q123
       have hw123_3 := hx123_3; have hw123_2 := hx123_2; have hw123_1 := hx123_1; have hw123_0 := hx123_0
       cases e123
       replace hx123_0 := (HB.out.cell (World.block_lt_of_cell? w _ hx123_0)).trans hx123_0
       replace hx123_1 := (HB.out.cell (World.block_lt_of_cell? w _ hx123_1)).trans hx123_1
       replace hx123_2 := (HB.out.cell (World.block_lt_of_cell? w _ hx123_2)).trans hx123_2
       replace hx123_3 := (HB.out.cell (World.block_lt_of_cell? w _ hx123_3)).trans hx123_3
       replace p123 := eq_true p123
       replace q123 := eq_true q123
       refine start_ (n := 13) (S := fun w' => w'.cell? ⟨gb122, 0, none⟩ = some (.int .i64 a1_0) ∧ w'.cell? ⟨gb122, 1, none⟩ = some (.int .i64 a1_1) ∧ w'.cell? ⟨gb122, 2, none⟩ = some (.int .i64 a1_2) ∧ w'.cell? ⟨gb122, 3, none⟩ = some (.int .i64 a1_3) ∧ w'.cell? (ad123.add ((x5_1).toNat * 4)) = some (.int .i64 ((rd_T51 l0 x5_1).f0)) ∧ w'.cell? ⟨(ad123.add ((x5_1).toNat * 4)).block, (ad123.add ((x5_1).toNat * 4)).off + 1, none⟩ = some (.int .i64 ((rd_T51 l0 x5_1).f1)) ∧ w'.cell? ⟨(ad123.add ((x5_1).toNat * 4)).block, (ad123.add ((x5_1).toNat * 4)).off + 2, none⟩ = some (.int .i64 ((rd_T51 l0 x5_1).f2)) ∧ w'.cell? ⟨(ad123.add ((x5_1).toNat * 4)).block, (ad123.add ((x5_1).toNat * 4)).off + 3, none⟩ = some (.int .i64 ((rd_T51 l0 x5_1).f3))) (ds := []) #[false, false, false, false, false, false, false, false, false, false, false, false, false] (by kernel_rfl) rfl rfl ⟨zc BK122 0, zc BK122 1, zc BK122 2, zc BK122 3, ((HB.out.cell (World.block_lt_of_cell? w _ hw123_0)).trans hw123_0), ((HB.out.cell (World.block_lt_of_cell? w _ hw123_1)).trans hw123_1), ((HB.out.cell (World.block_lt_of_cell? w _ hw123_2)).trans hw123_2), ((HB.out.cell (World.block_lt_of_cell? w _ hw123_3)).trans hw123_3)⟩ (fun hHeld => ?_); refine with_tabW spec_poPut.tab2 spec_poPut.bits2 (fun HT_ HW_ => ?_)
       generalize wr.drew = w9 at BK122 HB hx123_0 hx123_1 hx123_2 hx123_3 hHeld ⊢
       refine zp (i := 0) (N := some 8) #[true, false, false, false, false, false, false, false, false, false, false, false, false] (any_of HT_.out (by kernel_rfl)) ?_
       refine zp (i := 1) (N := some 9) #[true, true, false, false, false, false, false, false, false, false, false, false, false] (any_of HT_.out (by kernel_rfl)) ?_
       refine zp (i := 2) (N := some 10) #[true, true, true, false, false, false, false, false, false, false, false, false, false] (any_of HT_.out (by kernel_rfl)) ?_
       refine zp (i := 3) (N := some 11) #[true, true, true, true, false, false, false, false, false, false, false, false, false] (any_of HT_.out (by kernel_rfl)) ?_
       refine zp (i := 4) (N := some 12) #[true, true, true, true, true, false, false, false, false, false, false, false, false] (any_of HT_.out (by kernel_rfl)) ?_
       refine zp (i := 5) (N := some 13) #[true, true, true, true, true, true, false, false, false, false, false, false, false] (any_of HT_.out (by kernel_rfl)) ?_
       refine zp (i := 6) (N := some 14) #[true, true, true, true, true, true, true, false, false, false, false, false, false] (any_of HT_.out (by kernel_rfl)) ?_
       refine zp (i := 7) (N := some 15) #[true, true, true, true, true, true, true, true, false, false, false, false, false] (any_of HT_.out (by kernel_rfl)) ?_
       refine take_ (i := 8) (N := some 16) (v := ?_) (a' := ?_) #[true, true, true, true, true, true, true, true, true, false, false, false, false] rfl rfl (take_ofW HT_.out HW_.out (by kernel_rfl)) (fun _ _ _ h => h) (Or.inl ⟨by rfl, ?_⟩) hHeld ?_ ?_
       rotate_left
       ·
        rintro w' ⟨s0, s1, s2, s3, s4, s5, s6, s7⟩
        go_simp
        with_reducible rfl
       rotate_left
       ·
        simp only [Act.put, List.setIfInBounds_toArray, List.set_cons_zero, List.set_cons_succ, i64_w, i32_w]
        rfl
       refine take_ (i := 9) (N := some 17) (v := ?_) (a' := ?_) #[true, true, true, true, true, true, true, true, true, true, false, false, false] rfl rfl (take_ofW HT_.out HW_.out (by kernel_rfl)) (fun _ _ _ h => h) (Or.inl ⟨by rfl, ?_⟩) hHeld ?_ ?_
       rotate_left
       ·
        rintro w' ⟨s0, s1, s2, s3, s4, s5, s6, s7⟩
        go_simp
        with_reducible rfl
       rotate_left
       ·
        simp only [Act.put, List.setIfInBounds_toArray, List.set_cons_zero, List.set_cons_succ, i64_w, i32_w]
        rfl
       refine one_ (i := 10) (N := some 18) #[true, true, true, true, true, true, true, true, true, true, true, false, false] rfl rfl (one_of HT_.out (by kernel_rfl)) (by decide) (fun K hK => ?_)
       refine goes_ Try.func69 (by kernel_rfl) rfl #[.agg #[.int .i64 ((rd_T51 l0 x5_1).f0), .int .i64 ((rd_T51 l0 x5_1).f1), .int .i64 ((rd_T51 l0 x5_1).f2), .int .i64 ((rd_T51 l0 x5_1).f3)], .agg #[.int .i64 a1_0, .int .i64 a1_1, .int .i64 a1_2, .int .i64 a1_3]] (by rfl) rfl rfl zq6 ?_
       with_reducible refine (spec_poOrder.calls ((rd_T51 l0 x5_1).f0) ((rd_T51 l0 x5_1).f1) ((rd_T51 l0 x5_1).f2) ((rd_T51 l0 x5_1).f3) a1_0 a1_1 a1_2 a1_3 t124 _ A7.out).mono ?_
       rintro e w10 ⟨rfl, hb⟩
       refine ⟨_, rfl, ?_⟩
       replace BK122 := Aside0.mk (zbb BK122 hb); replace HB := Aside0.mk (below_step (zb1 HB) hb)
       (try clear hb)
       (try clear hb2)
       (try clear hk)
       (try clear hi)
       refine hK.out _ _ ⟨zc BK122 0, zc BK122 1, zc BK122 2, zc BK122 3, ((HB.out.cell (World.block_lt_of_cell? w _ hw123_0)).trans hw123_0), ((HB.out.cell (World.block_lt_of_cell? w _ hw123_1)).trans hw123_1), ((HB.out.cell (World.block_lt_of_cell? w _ hw123_2)).trans hw123_2), ((HB.out.cell (World.block_lt_of_cell? w _ hw123_3)).trans hw123_3)⟩ (fun hHeld => ?_)
       clear hK K
       refine norm_ (a' := ?_) ?_ ?_
       rotate_left
       ·
        show Act.put _ (some 18) _ = _
        simp only [Act.put, List.setIfInBounds_toArray, List.set_cons_zero, List.set_cons_succ, i64_w, i32_w]; rfl
       refine zp (i := 11) (N := some 19) #[true, true, true, true, true, true, true, true, true, true, true, true, false] (any_of HT_.out (by kernel_rfl)) ?_
       refine zp (i := 12) (N := some 20) #[true, true, true, true, true, true, true, true, true, true, true, true, true] (any_of HT_.out (by kernel_rfl)) ?_
       refine done_ (done_of HT_.out (by kernel_rfl)) ?_
       try go_wp2
       go_roundg k1
       case measure => have := HK1.out; omega
       case rel => exact ⟨(wrap64 (x5_1 + 1)), (by first | rfl | (simp; done) | (simp [*]; done)), H', ⟨by have := HK1.out; omega⟩, ⟨by (with_reducible repeat (first | refine blk_drewN ?_ _ | refine blk_drew ?_ | refine blk_alloc ?_ _)); exact BK122.out⟩, ⟨(zb1 HB)⟩⟩
      ·
       rw [if_neg c8] at H
       have c8b0 : decide (t124 < 0) = false := decide_eq_false c8
       clear c8
       have H' := Aside0.mk H
       clear H
       try go_wp2
       replace BK122 := Aside0.mk (blk_drew BK122.out); replace HB := Aside0.mk (below_drew1 HB.out)
       have p123 : 0 ≤ (x5_1 : Int) := of_decide_eq_true (by first | (with_reducible assumption) | assumption)
       have q123 : x5_1 < (l0.length : Int) := of_decide_eq_true (by first | (with_reducible assumption) | assumption)
       obtain ⟨ad123, e123, hx123_0, hx123_1, hx123_2, hx123_3⟩ := at_T51 HR0.out x5_1 p123 q123
       have hw123_3 := hx123_3; have hw123_2 := hx123_2; have hw123_1 := hx123_1; have hw123_0 := hx123_0
       cases e123
       replace hx123_0 := (HB.out.cell (World.block_lt_of_cell? w _ hx123_0)).trans hx123_0
       replace hx123_1 := (HB.out.cell (World.block_lt_of_cell? w _ hx123_1)).trans hx123_1
       replace hx123_2 := (HB.out.cell (World.block_lt_of_cell? w _ hx123_2)).trans hx123_2
       replace hx123_3 := (HB.out.cell (World.block_lt_of_cell? w _ hx123_3)).trans hx123_3
       replace p123 := eq_true p123
       replace q123 := eq_true q123
       refine start_ (n := 13) (S := fun w' => w'.cell? ⟨gb122, 0, none⟩ = some (.int .i64 a1_0) ∧ w'.cell? ⟨gb122, 1, none⟩ = some (.int .i64 a1_1) ∧ w'.cell? ⟨gb122, 2, none⟩ = some (.int .i64 a1_2) ∧ w'.cell? ⟨gb122, 3, none⟩ = some (.int .i64 a1_3) ∧ w'.cell? (ad123.add ((x5_1).toNat * 4)) = some (.int .i64 ((rd_T51 l0 x5_1).f0)) ∧ w'.cell? ⟨(ad123.add ((x5_1).toNat * 4)).block, (ad123.add ((x5_1).toNat * 4)).off + 1, none⟩ = some (.int .i64 ((rd_T51 l0 x5_1).f1)) ∧ w'.cell? ⟨(ad123.add ((x5_1).toNat * 4)).block, (ad123.add ((x5_1).toNat * 4)).off + 2, none⟩ = some (.int .i64 ((rd_T51 l0 x5_1).f2)) ∧ w'.cell? ⟨(ad123.add ((x5_1).toNat * 4)).block, (ad123.add ((x5_1).toNat * 4)).off + 3, none⟩ = some (.int .i64 ((rd_T51 l0 x5_1).f3))) (ds := []) #[false, false, false, false, false, false, false, false, false, false, false, false, false] (by kernel_rfl) rfl rfl ⟨zc BK122 0, zc BK122 1, zc BK122 2, zc BK122 3, ((HB.out.cell (World.block_lt_of_cell? w _ hw123_0)).trans hw123_0), ((HB.out.cell (World.block_lt_of_cell? w _ hw123_1)).trans hw123_1), ((HB.out.cell (World.block_lt_of_cell? w _ hw123_2)).trans hw123_2), ((HB.out.cell (World.block_lt_of_cell? w _ hw123_3)).trans hw123_3)⟩ (fun hHeld => ?_); refine with_tabW spec_poPut.tab2 spec_poPut.bits2 (fun HT_ HW_ => ?_)
       generalize wr.drew = w11 at BK122 HB hx123_0 hx123_1 hx123_2 hx123_3 hHeld ⊢
       refine zp (i := 0) (N := some 8) #[true, false, false, false, false, false, false, false, false, false, false, false, false] (any_of HT_.out (by kernel_rfl)) ?_
       refine zp (i := 1) (N := some 9) #[true, true, false, false, false, false, false, false, false, false, false, false, false] (any_of HT_.out (by kernel_rfl)) ?_
       refine zp (i := 2) (N := some 10) #[true, true, true, false, false, false, false, false, false, false, false, false, false] (any_of HT_.out (by kernel_rfl)) ?_
       refine zp (i := 3) (N := some 11) #[true, true, true, true, false, false, false, false, false, false, false, false, false] (any_of HT_.out (by kernel_rfl)) ?_
       refine zp (i := 4) (N := some 12) #[true, true, true, true, true, false, false, false, false, false, false, false, false] (any_of HT_.out (by kernel_rfl)) ?_
       refine zp (i := 5) (N := some 13) #[true, true, true, true, true, true, false, false, false, false, false, false, false] (any_of HT_.out (by kernel_rfl)) ?_
       refine zp (i := 6) (N := some 14) #[true, true, true, true, true, true, true, false, false, false, false, false, false] (any_of HT_.out (by kernel_rfl)) ?_
       refine zp (i := 7) (N := some 15) #[true, true, true, true, true, true, true, true, false, false, false, false, false] (any_of HT_.out (by kernel_rfl)) ?_
       refine take_ (i := 8) (N := some 16) (v := ?_) (a' := ?_) #[true, true, true, true, true, true, true, true, true, false, false, false, false] rfl rfl (take_ofW HT_.out HW_.out (by kernel_rfl)) (fun _ _ _ h => h) (Or.inl ⟨by rfl, ?_⟩) hHeld ?_ ?_
       rotate_left
       ·
        rintro w' ⟨s0, s1, s2, s3, s4, s5, s6, s7⟩
        go_simp
        with_reducible rfl
       rotate_left
       ·
        simp only [Act.put, List.setIfInBounds_toArray, List.set_cons_zero, List.set_cons_succ, i64_w, i32_w]
        rfl
       refine take_ (i := 9) (N := some 17) (v := ?_) (a' := ?_) #[true, true, true, true, true, true, true, true, true, true, false, false, false] rfl rfl (take_ofW HT_.out HW_.out (by kernel_rfl)) (fun _ _ _ h => h) (Or.inl ⟨by rfl, ?_⟩) hHeld ?_ ?_
       rotate_left
       ·
        rintro w' ⟨s0, s1, s2, s3, s4, s5, s6, s7⟩
        go_simp
        with_reducible rfl
       rotate_left
       ·
        simp only [Act.put, List.setIfInBounds_toArray, List.set_cons_zero, List.set_cons_succ, i64_w, i32_w]
        rfl
       refine one_ (i := 10) (N := some 18) #[true, true, true, true, true, true, true, true, true, true, true, false, false] rfl rfl (one_of HT_.out (by kernel_rfl)) (by decide) (fun K hK => ?_)
       refine goes_ Try.func69 (by kernel_rfl) rfl #[.agg #[.int .i64 ((rd_T51 l0 x5_1).f0), .int .i64 ((rd_T51 l0 x5_1).f1), .int .i64 ((rd_T51 l0 x5_1).f2), .int .i64 ((rd_T51 l0 x5_1).f3)], .agg #[.int .i64 a1_0, .int .i64 a1_1, .int .i64 a1_2, .int .i64 a1_3]] (by rfl) rfl rfl zq6 ?_
       with_reducible refine (spec_poOrder.calls ((rd_T51 l0 x5_1).f0) ((rd_T51 l0 x5_1).f1) ((rd_T51 l0 x5_1).f2) ((rd_T51 l0 x5_1).f3) a1_0 a1_1 a1_2 a1_3 t124 _ A7.out).mono ?_
       rintro e w12 ⟨rfl, hb⟩
       refine ⟨_, rfl, ?_⟩
       replace BK122 := Aside0.mk (zbb BK122 hb); replace HB := Aside0.mk (below_step (zb1 HB) hb)
       (try clear hb)
       (try clear hb2)
       (try clear hk)
       (try clear hi)
       refine hK.out _ _ ⟨zc BK122 0, zc BK122 1, zc BK122 2, zc BK122 3, ((HB.out.cell (World.block_lt_of_cell? w _ hw123_0)).trans hw123_0), ((HB.out.cell (World.block_lt_of_cell? w _ hw123_1)).trans hw123_1), ((HB.out.cell (World.block_lt_of_cell? w _ hw123_2)).trans hw123_2), ((HB.out.cell (World.block_lt_of_cell? w _ hw123_3)).trans hw123_3)⟩ (fun hHeld => ?_)
       clear hK K
       refine norm_ (a' := ?_) ?_ ?_
       rotate_left
       ·
        show Act.put _ (some 18) _ = _
        simp only [Act.put, List.setIfInBounds_toArray, List.set_cons_zero, List.set_cons_succ, i64_w, i32_w]; rfl
       refine zp (i := 11) (N := some 19) #[true, true, true, true, true, true, true, true, true, true, true, true, false] (any_of HT_.out (by kernel_rfl)) ?_
       refine zp (i := 12) (N := some 20) #[true, true, true, true, true, true, true, true, true, true, true, true, true] (any_of HT_.out (by kernel_rfl)) ?_
       refine done_ (done_of HT_.out (by kernel_rfl)) ?_
       try go_wp2
       go_meet
       case rel => exact ⟨_, (x5_1), (by first | rfl | (simp; done) | (simp [*]; done)), H', ⟨by have := HK1.out; first | omega | exact Nat.le_refl _⟩, ⟨by (with_reducible repeat (first | refine blk_drewN ?_ _ | refine blk_drew ?_ | refine blk_alloc ?_ _)); exact BK122.out⟩, ⟨(zb1 HB)⟩⟩
     ·
      rw [if_neg c6] at H
      exact absurd H (by simp)
    ·
     rw [if_neg c5] at H
     have c5b0 : decide (x5_1 < (l0.length : Int)) = false := decide_eq_false c5
     clear c5
     (first | rw [c5b0] | (simp only [i64_w, i32_w]; rw [c5b0]) | skip)
     have H' := Aside0.mk H
     clear H
     try go_wp2
     replace BK122 := Aside0.mk (blk_drew BK122.out); replace HB := Aside0.mk (below_drew1 HB.out)
     refine start_ (n := 13) (S := fun w' => True) (ds := []) #[false, false, false, false, false, false, false, false, false, false, false, false, false] (by kernel_rfl) rfl rfl trivial (fun hHeld => ?_); refine with_tabW spec_poPut.tab2 spec_poPut.bits2 (fun HT_ HW_ => ?_)
     generalize wr.drew = w13 at BK122 HB hHeld ⊢
     refine zp (i := 0) (N := some 8) #[true, false, false, false, false, false, false, false, false, false, false, false, false] (any_of HT_.out (by kernel_rfl)) ?_
     refine zp (i := 1) (N := some 9) #[true, true, false, false, false, false, false, false, false, false, false, false, false] (any_of HT_.out (by kernel_rfl)) ?_
     refine zp (i := 2) (N := some 10) #[true, true, true, false, false, false, false, false, false, false, false, false, false] (any_of HT_.out (by kernel_rfl)) ?_
     refine zp (i := 3) (N := some 11) #[true, true, true, true, false, false, false, false, false, false, false, false, false] (any_of HT_.out (by kernel_rfl)) ?_
     refine zp (i := 4) (N := some 12) #[true, true, true, true, true, false, false, false, false, false, false, false, false] (any_of HT_.out (by kernel_rfl)) ?_
     refine pure_ (i := 5) (N := some 13) (v := undef) (a' := ?_) #[true, true, true, true, true, true, false, false, false, false, false, false, false] rfl rfl (any_of HT_.out (by kernel_rfl)) (fun _ _ _ h => h) (Or.inr ⟨by rfl, rfl⟩) ?_ ?_
     rotate_left
     ·
      simp only [Act.put, List.setIfInBounds_toArray, List.set_cons_zero, List.set_cons_succ, i64_w, i32_w]
      rfl
     refine pure_ (i := 6) (N := some 14) (v := undef) (a' := ?_) #[true, true, true, true, true, true, true, false, false, false, false, false, false] rfl rfl (any_of HT_.out (by kernel_rfl)) (fun _ _ _ h => h) (Or.inr ⟨by rfl, rfl⟩) ?_ ?_
     rotate_left
     ·
      simp only [Act.put, List.setIfInBounds_toArray, List.set_cons_zero, List.set_cons_succ, i64_w, i32_w]
      rfl
     refine pure_ (i := 7) (N := some 15) (v := undef) (a' := ?_) #[true, true, true, true, true, true, true, true, false, false, false, false, false] rfl rfl (any_of HT_.out (by kernel_rfl)) (fun _ _ _ h => h) (Or.inr ⟨by rfl, rfl⟩) ?_ ?_
     rotate_left
     ·
      simp only [Act.put, List.setIfInBounds_toArray, List.set_cons_zero, List.set_cons_succ, i64_w, i32_w]
      rfl
     refine pure_ (i := 8) (N := some 16) (v := undef) (a' := ?_) #[true, true, true, true, true, true, true, true, true, false, false, false, false] rfl rfl (any_of HT_.out (by kernel_rfl)) (fun _ _ _ h => h) (Or.inr ⟨by rfl, rfl⟩) ?_ ?_
     rotate_left
     ·
      simp only [Act.put, List.setIfInBounds_toArray, List.set_cons_zero, List.set_cons_succ, i64_w, i32_w]
      rfl
     refine pure_ (i := 9) (N := some 17) (v := undef) (a' := ?_) #[true, true, true, true, true, true, true, true, true, true, false, false, false] rfl rfl (any_of HT_.out (by kernel_rfl)) (fun _ _ _ h => h) (Or.inr ⟨by rfl, rfl⟩) ?_ ?_
     rotate_left
     ·
      simp only [Act.put, List.setIfInBounds_toArray, List.set_cons_zero, List.set_cons_succ, i64_w, i32_w]
      rfl
     refine pure_ (i := 10) (N := some 18) (v := undef) (a' := ?_) #[true, true, true, true, true, true, true, true, true, true, true, false, false] rfl rfl (any_of HT_.out (by kernel_rfl)) (fun _ _ _ h => h) (Or.inr ⟨by rfl, rfl⟩) ?_ ?_
     rotate_left
     ·
      simp only [Act.put, List.setIfInBounds_toArray, List.set_cons_zero, List.set_cons_succ, i64_w, i32_w]
      rfl
     refine pure_ (i := 11) (N := some 19) (v := undef) (a' := ?_) #[true, true, true, true, true, true, true, true, true, true, true, true, false] rfl rfl (any_of HT_.out (by kernel_rfl)) (fun _ _ _ h => h) (Or.inr ⟨by rfl, rfl⟩) ?_ ?_
     rotate_left
     ·
      simp only [Act.put, List.setIfInBounds_toArray, List.set_cons_zero, List.set_cons_succ, i64_w, i32_w]
      rfl
     refine zp (i := 12) (N := some 20) #[true, true, true, true, true, true, true, true, true, true, true, true, true] (any_of HT_.out (by kernel_rfl)) ?_
     refine done_ (done_of HT_.out (by kernel_rfl)) ?_
     try go_wp2
     go_meet
     case rel => exact ⟨_, (x5_1), (by first | rfl | (simp; done) | (simp [*]; done)), H', ⟨by have := HK1.out; first | omega | exact Nat.le_refl _⟩, ⟨by (with_reducible repeat (first | refine blk_drewN ?_ _ | refine blk_drew ?_ | refine blk_alloc ?_ _)); exact BK122.out⟩, ⟨(zb1 HB)⟩⟩
 case rest =>
  clear HC3
  try clear p1
  try clear q1
  try clear hx1
  try clear p2
  try clear c5
  try clear c5b0
  try clear c6
  try clear c6b0
  try clear p6
  try clear c7
  try clear c8
  try clear c8b0
  try clear p12
  try clear q12
  try clear hx12
  try clear hx123_0
  try clear hx123_1
  try clear hx123_2
  try clear hx123_3
  try clear p123
  try clear p2
  try clear q123
  obtain ⟨kq, x5_2, rfl, HA, HJ2, BK122, HB⟩ := hcut
  cases kq with
  | zero => exact absurd HA.out (by simp [spec_poPut.j1])
  | succ kj2 =>
   have H := HA.out
   clear HA
   simp only [spec_poPut.j1] at H
   by_cases c14 : 0 ≤ x5_2
   ·
    rw [if_pos c14] at H
    have c14b0 := eq_true c14
    have c14b1 : decide (0 ≤ x5_2) = true := decide_eq_true c14
    clear c14
    by_cases c15 : x5_2 ≤ (l0.length : Int)
    ·
     rw [if_pos c15] at H
     have c15b0 := eq_true c15
     have c15b1 : decide (x5_2 ≤ (l0.length : Int)) = true := decide_eq_true c15
     clear c15
     obtain ⟨y125, hy125⟩ : ∃ y_ : List (S51), y_ = (l0.drop (x5_2 : Int).toNat) := ⟨_, rfl⟩
     replace H : (if x5_2 < (l0.length : Int) then ((spec_poOrder.f ((rd_T51 l0 x5_2).f0) ((rd_T51 l0 x5_2).f1) ((rd_T51 l0 x5_2).f2) ((rd_T51 l0 x5_2).f3) a1_0 a1_1 a1_2 a1_3).bind fun t130 => (spec_poPut.j2 kj2 l0 x5_2 y125 (t130 == 0) a1_0 a1_1 a1_2 a1_3)) else (spec_poPut.j2 kj2 l0 x5_2 y125 false a1_0 a1_1 a1_2 a1_3)) = some r := by first | (rw [hy125]; with_reducible exact H) | (have H2_ := (Option.bind_some _ _).symm.trans H; rw [hy125]; with_reducible exact H2_) | (have H2_ := (Option.bind_some _ _).symm.trans H; with_reducible exact H2_) | with_reducible exact H | (rw [hy125]; exact H) | exact H
     have Ny125 := Aside0.mk hy125
     clear hy125
     have HC16 := Aside0.mk H
     clear H
     have q17 : (x5_2 : Int) ≤ ((l0.length : Int) : Int) := of_decide_eq_true (by first | (with_reducible assumption) | assumption)
     obtain ⟨i017, hi017, _, hsz17, _⟩ := info_parts info51
     have hroom17 : l0.length ≤ c0 := HC0.out
     have hC17 : Kd.C k51 _ A0 l0.length l0 := HR0.out
     have q017 : (0 : Int) ≤ (x5_2 : Int) := of_decide_eq_true (by first | (with_reducible assumption) | assumption)
     have hcut17 := cut_from (P := Try.prog) 25 51 .i64 Try.underlying25 hi017 4 hsz17 A0 l0.length c0 x5_2 q017 q17
     have hr17 := Kd.C_drop (m := (x5_2 : Int).toNat) (c := c0) hC17 (by omega) hroom17
     obtain ⟨A17, hA17⟩ : ∃ A1, A1 = (if c0 = (x5_2 : Int).toNat then A0 else (A0 : Option Addr).map (·.add ((x5_2 : Int).toNat * 4))) := ⟨_, rfl⟩
     obtain ⟨c17, hc17⟩ : ∃ c1, c1 = c0 - (x5_2 : Int).toNat := ⟨_, rfl⟩
     have hy17 : y125.length = l0.length - (x5_2 : Int).toNat := (by rw [Ny125.out, List.length_drop] <;> omega)
     rw [show (l0).drop (x5_2 : Int).toNat = y125 from Ny125.out.symm] at hr17
     replace hr17 : Kd.C k51 _ A17 y125.length y125 := (by rw [hA17]; exact hr17)
     rw [← hy17, ← hA17, ← hc17] at hcut17
     have HR128 := Aside0.mk hr17
     have HC128 := Aside0.mk (show y125.length ≤ c17 from by rw [hy17, hc17]; exact Nat.sub_le_sub_right hroom17 _)
     clear hr17 hC17 hroom17 hi017 hsz17 hc17
     have KY17 := Aside0.mk hy17
     have KA17 := Aside0.mk hA17
     clear hy17 hA17
     replace q17 := eq_true q17
     go_upto_region 5 with (fail)
     go_cut [38] (fun v38 wc => ∃ (kq : Nat) (x38_15 : Bool), v38 = .bool x38_15 ∧ Aside0 (spec_poPut.j2 kq l0 x5_2 y125 x38_15 a1_0 a1_1 a1_2 a1_3 = some r) ∧ Aside0 (kq ≤ kj2) ∧ Aside0 (wc.heap[gb122]? = some (.cells #[.int .i64 a1_0, .int .i64 a1_1, .int .i64 a1_2, .int .i64 a1_3] 51 (0, 0))) ∧ Aside0 (Below w.heap.size w wc))
     case first =>
      have H := HC16.out
      clear HC16
      by_cases c18 : x5_2 < (l0.length : Int)
      ·
       rw [if_pos c18] at H
       have c18b0 : decide (x5_2 < (l0.length : Int)) = true := decide_eq_true c18
       clear c18
       (first | rw [c18b0] | (simp only [i64_w, i32_w]; rw [c18b0]) | skip)
       replace H := Option.bind_eq_some_iff.mp H
       obtain ⟨t130, A190, H⟩ := H
       replace H : (spec_poPut.j2 kj2 l0 x5_2 y125 (t130 == 0) a1_0 a1_1 a1_2 a1_3) = some r := H
       have A19 := Aside0.mk A190
       clear A190
       have H' := Aside0.mk H
       clear H
       try go_wp2
       replace BK122 := Aside0.mk (blk_drew BK122.out); replace HB := Aside0.mk (below_drew1 HB.out)
       have p129 : 0 ≤ (x5_2 : Int) := of_decide_eq_true (by first | (with_reducible assumption) | assumption)
       have q129 : x5_2 < (l0.length : Int) := of_decide_eq_true (by first | (with_reducible assumption) | assumption)
       obtain ⟨ad129, e129, hx129_0, hx129_1, hx129_2, hx129_3⟩ := at_T51 HR0.out x5_2 p129 q129
       have hw129_3 := hx129_3; have hw129_2 := hx129_2; have hw129_1 := hx129_1; have hw129_0 := hx129_0
       cases e129
       replace hx129_0 := (HB.out.cell (World.block_lt_of_cell? w _ hx129_0)).trans hx129_0
       replace hx129_1 := (HB.out.cell (World.block_lt_of_cell? w _ hx129_1)).trans hx129_1
       replace hx129_2 := (HB.out.cell (World.block_lt_of_cell? w _ hx129_2)).trans hx129_2
       replace hx129_3 := (HB.out.cell (World.block_lt_of_cell? w _ hx129_3)).trans hx129_3
       replace p129 := eq_true p129
       replace q129 := eq_true q129
       refine start_ (n := 13) (S := fun w' => w'.cell? ⟨gb122, 0, none⟩ = some (.int .i64 a1_0) ∧ w'.cell? ⟨gb122, 1, none⟩ = some (.int .i64 a1_1) ∧ w'.cell? ⟨gb122, 2, none⟩ = some (.int .i64 a1_2) ∧ w'.cell? ⟨gb122, 3, none⟩ = some (.int .i64 a1_3) ∧ w'.cell? (ad129.add ((x5_2).toNat * 4)) = some (.int .i64 ((rd_T51 l0 x5_2).f0)) ∧ w'.cell? ⟨(ad129.add ((x5_2).toNat * 4)).block, (ad129.add ((x5_2).toNat * 4)).off + 1, none⟩ = some (.int .i64 ((rd_T51 l0 x5_2).f1)) ∧ w'.cell? ⟨(ad129.add ((x5_2).toNat * 4)).block, (ad129.add ((x5_2).toNat * 4)).off + 2, none⟩ = some (.int .i64 ((rd_T51 l0 x5_2).f2)) ∧ w'.cell? ⟨(ad129.add ((x5_2).toNat * 4)).block, (ad129.add ((x5_2).toNat * 4)).off + 3, none⟩ = some (.int .i64 ((rd_T51 l0 x5_2).f3))) (ds := []) #[false, false, false, false, false, false, false, false, false, false, false, false, false] (by kernel_rfl) rfl rfl ⟨zc BK122 0, zc BK122 1, zc BK122 2, zc BK122 3, ((HB.out.cell (World.block_lt_of_cell? w _ hw129_0)).trans hw129_0), ((HB.out.cell (World.block_lt_of_cell? w _ hw129_1)).trans hw129_1), ((HB.out.cell (World.block_lt_of_cell? w _ hw129_2)).trans hw129_2), ((HB.out.cell (World.block_lt_of_cell? w _ hw129_3)).trans hw129_3)⟩ (fun hHeld => ?_); refine with_tabW spec_poPut.tab5 spec_poPut.bits5 (fun HT_ HW_ => ?_)
       generalize wc.drew = w20 at BK122 HB hx129_0 hx129_1 hx129_2 hx129_3 hHeld ⊢
       refine zp (i := 0) (N := some 26) #[true, false, false, false, false, false, false, false, false, false, false, false, false] (any_of HT_.out (by kernel_rfl)) ?_
       refine zp (i := 1) (N := some 27) #[true, true, false, false, false, false, false, false, false, false, false, false, false] (any_of HT_.out (by kernel_rfl)) ?_
       refine zp (i := 2) (N := some 28) #[true, true, true, false, false, false, false, false, false, false, false, false, false] (any_of HT_.out (by kernel_rfl)) ?_
       refine zp (i := 3) (N := some 29) #[true, true, true, true, false, false, false, false, false, false, false, false, false] (any_of HT_.out (by kernel_rfl)) ?_
       refine zp (i := 4) (N := some 30) #[true, true, true, true, true, false, false, false, false, false, false, false, false] (any_of HT_.out (by kernel_rfl)) ?_
       refine zp (i := 5) (N := some 31) #[true, true, true, true, true, true, false, false, false, false, false, false, false] (any_of HT_.out (by kernel_rfl)) ?_
       refine zp (i := 6) (N := some 32) #[true, true, true, true, true, true, true, false, false, false, false, false, false] (any_of HT_.out (by kernel_rfl)) ?_
       refine zp (i := 7) (N := some 33) #[true, true, true, true, true, true, true, true, false, false, false, false, false] (any_of HT_.out (by kernel_rfl)) ?_
       refine take_ (i := 8) (N := some 34) (v := ?_) (a' := ?_) #[true, true, true, true, true, true, true, true, true, false, false, false, false] rfl rfl (take_ofW HT_.out HW_.out (by kernel_rfl)) (fun _ _ _ h => h) (Or.inl ⟨by rfl, ?_⟩) hHeld ?_ ?_
       rotate_left
       ·
        rintro w' ⟨s0, s1, s2, s3, s4, s5, s6, s7⟩
        go_simp
        with_reducible rfl
       rotate_left
       ·
        simp only [Act.put, List.setIfInBounds_toArray, List.set_cons_zero, List.set_cons_succ, i64_w, i32_w]
        rfl
       refine take_ (i := 9) (N := some 35) (v := ?_) (a' := ?_) #[true, true, true, true, true, true, true, true, true, true, false, false, false] rfl rfl (take_ofW HT_.out HW_.out (by kernel_rfl)) (fun _ _ _ h => h) (Or.inl ⟨by rfl, ?_⟩) hHeld ?_ ?_
       rotate_left
       ·
        rintro w' ⟨s0, s1, s2, s3, s4, s5, s6, s7⟩
        go_simp
        with_reducible rfl
       rotate_left
       ·
        simp only [Act.put, List.setIfInBounds_toArray, List.set_cons_zero, List.set_cons_succ, i64_w, i32_w]
        rfl
       refine one_ (i := 10) (N := some 36) #[true, true, true, true, true, true, true, true, true, true, true, false, false] rfl rfl (one_of HT_.out (by kernel_rfl)) (by decide) (fun K hK => ?_)
       refine goes_ Try.func69 (by kernel_rfl) rfl #[.agg #[.int .i64 ((rd_T51 l0 x5_2).f0), .int .i64 ((rd_T51 l0 x5_2).f1), .int .i64 ((rd_T51 l0 x5_2).f2), .int .i64 ((rd_T51 l0 x5_2).f3)], .agg #[.int .i64 a1_0, .int .i64 a1_1, .int .i64 a1_2, .int .i64 a1_3]] (by rfl) rfl rfl zq6 ?_
       with_reducible refine (spec_poOrder.calls ((rd_T51 l0 x5_2).f0) ((rd_T51 l0 x5_2).f1) ((rd_T51 l0 x5_2).f2) ((rd_T51 l0 x5_2).f3) a1_0 a1_1 a1_2 a1_3 t130 _ A19.out).mono ?_
       rintro e w21 ⟨rfl, hb⟩
       refine ⟨_, rfl, ?_⟩
       replace BK122 := Aside0.mk (zbb BK122 hb); replace HB := Aside0.mk (below_step (zb1 HB) hb)
       (try clear hb)
       (try clear hb2)
       (try clear hk)
       (try clear hi)
       refine hK.out _ _ ⟨zc BK122 0, zc BK122 1, zc BK122 2, zc BK122 3, ((HB.out.cell (World.block_lt_of_cell? w _ hw129_0)).trans hw129_0), ((HB.out.cell (World.block_lt_of_cell? w _ hw129_1)).trans hw129_1), ((HB.out.cell (World.block_lt_of_cell? w _ hw129_2)).trans hw129_2), ((HB.out.cell (World.block_lt_of_cell? w _ hw129_3)).trans hw129_3)⟩ (fun hHeld => ?_)
       clear hK K
       refine norm_ (a' := ?_) ?_ ?_
       rotate_left
       ·
        show Act.put _ (some 36) _ = _
        simp only [Act.put, List.setIfInBounds_toArray, List.set_cons_zero, List.set_cons_succ, i64_w, i32_w]; rfl
       refine zp (i := 11) (N := some 37) #[true, true, true, true, true, true, true, true, true, true, true, true, false] (any_of HT_.out (by kernel_rfl)) ?_
       refine zp (i := 12) (N := some 38) #[true, true, true, true, true, true, true, true, true, true, true, true, true] (any_of HT_.out (by kernel_rfl)) ?_
       refine done_ (done_of HT_.out (by kernel_rfl)) ?_
       try go_wp2
       go_meet
       case rel => exact ⟨_, ((t130 == 0)), (by first | rfl | (simp; done) | (simp [*]; done)), H', ⟨by have := HJ2.out; first | omega | exact Nat.le_refl _⟩, ⟨by (with_reducible repeat (first | refine blk_drewN ?_ _ | refine blk_drew ?_ | refine blk_alloc ?_ _)); exact BK122.out⟩, ⟨(zb1 HB)⟩⟩
      ·
       rw [if_neg c18] at H
       have c18b0 : decide (x5_2 < (l0.length : Int)) = false := decide_eq_false c18
       clear c18
       (first | rw [c18b0] | (simp only [i64_w, i32_w]; rw [c18b0]) | skip)
       have H' := Aside0.mk H
       clear H
       try go_wp2
       replace BK122 := Aside0.mk (blk_drew BK122.out); replace HB := Aside0.mk (below_drew1 HB.out)
       refine start_ (n := 13) (S := fun w' => True) (ds := []) #[false, false, false, false, false, false, false, false, false, false, false, false, false] (by kernel_rfl) rfl rfl trivial (fun hHeld => ?_); refine with_tabW spec_poPut.tab5 spec_poPut.bits5 (fun HT_ HW_ => ?_)
       generalize wc.drew = w22 at BK122 HB hHeld ⊢
       refine zp (i := 0) (N := some 26) #[true, false, false, false, false, false, false, false, false, false, false, false, false] (any_of HT_.out (by kernel_rfl)) ?_
       refine zp (i := 1) (N := some 27) #[true, true, false, false, false, false, false, false, false, false, false, false, false] (any_of HT_.out (by kernel_rfl)) ?_
       refine zp (i := 2) (N := some 28) #[true, true, true, false, false, false, false, false, false, false, false, false, false] (any_of HT_.out (by kernel_rfl)) ?_
       refine zp (i := 3) (N := some 29) #[true, true, true, true, false, false, false, false, false, false, false, false, false] (any_of HT_.out (by kernel_rfl)) ?_
       refine zp (i := 4) (N := some 30) #[true, true, true, true, true, false, false, false, false, false, false, false, false] (any_of HT_.out (by kernel_rfl)) ?_
       refine pure_ (i := 5) (N := some 31) (v := undef) (a' := ?_) #[true, true, true, true, true, true, false, false, false, false, false, false, false] rfl rfl (any_of HT_.out (by kernel_rfl)) (fun _ _ _ h => h) (Or.inr ⟨by rfl, rfl⟩) ?_ ?_
       rotate_left
       ·
        simp only [Act.put, List.setIfInBounds_toArray, List.set_cons_zero, List.set_cons_succ, i64_w, i32_w]
        rfl
       refine pure_ (i := 6) (N := some 32) (v := undef) (a' := ?_) #[true, true, true, true, true, true, true, false, false, false, false, false, false] rfl rfl (any_of HT_.out (by kernel_rfl)) (fun _ _ _ h => h) (Or.inr ⟨by rfl, rfl⟩) ?_ ?_
       rotate_left
       ·
        simp only [Act.put, List.setIfInBounds_toArray, List.set_cons_zero, List.set_cons_succ, i64_w, i32_w]
        rfl
       refine pure_ (i := 7) (N := some 33) (v := undef) (a' := ?_) #[true, true, true, true, true, true, true, true, false, false, false, false, false] rfl rfl (any_of HT_.out (by kernel_rfl)) (fun _ _ _ h => h) (Or.inr ⟨by rfl, rfl⟩) ?_ ?_
       rotate_left
       ·
        simp only [Act.put, List.setIfInBounds_toArray, List.set_cons_zero, List.set_cons_succ, i64_w, i32_w]
        rfl
       refine pure_ (i := 8) (N := some 34) (v := undef) (a' := ?_) #[true, true, true, true, true, true, true, true, true, false, false, false, false] rfl rfl (any_of HT_.out (by kernel_rfl)) (fun _ _ _ h => h) (Or.inr ⟨by rfl, rfl⟩) ?_ ?_
       rotate_left
       ·
        simp only [Act.put, List.setIfInBounds_toArray, List.set_cons_zero, List.set_cons_succ, i64_w, i32_w]
        rfl
       refine pure_ (i := 9) (N := some 35) (v := undef) (a' := ?_) #[true, true, true, true, true, true, true, true, true, true, false, false, false] rfl rfl (any_of HT_.out (by kernel_rfl)) (fun _ _ _ h => h) (Or.inr ⟨by rfl, rfl⟩) ?_ ?_
       rotate_left
       ·
        simp only [Act.put, List.setIfInBounds_toArray, List.set_cons_zero, List.set_cons_succ, i64_w, i32_w]
        rfl
       refine pure_ (i := 10) (N := some 36) (v := undef) (a' := ?_) #[true, true, true, true, true, true, true, true, true, true, true, false, false] rfl rfl (any_of HT_.out (by kernel_rfl)) (fun _ _ _ h => h) (Or.inr ⟨by rfl, rfl⟩) ?_ ?_
       rotate_left
       ·
        simp only [Act.put, List.setIfInBounds_toArray, List.set_cons_zero, List.set_cons_succ, i64_w, i32_w]
        rfl
       refine pure_ (i := 11) (N := some 37) (v := undef) (a' := ?_) #[true, true, true, true, true, true, true, true, true, true, true, true, false] rfl rfl (any_of HT_.out (by kernel_rfl)) (fun _ _ _ h => h) (Or.inr ⟨by rfl, rfl⟩) ?_ ?_
       rotate_left
       ·
        simp only [Act.put, List.setIfInBounds_toArray, List.set_cons_zero, List.set_cons_succ, i64_w, i32_w]
        rfl
       refine zp (i := 12) (N := some 38) #[true, true, true, true, true, true, true, true, true, true, true, true, true] (any_of HT_.out (by kernel_rfl)) ?_
       refine done_ (done_of HT_.out (by kernel_rfl)) ?_
       try go_wp2
       go_meet
       case rel => exact ⟨_, (false), (by first | rfl | (simp; done) | (simp [*]; done)), H', ⟨by have := HJ2.out; first | omega | exact Nat.le_refl _⟩, ⟨by (with_reducible repeat (first | refine blk_drewN ?_ _ | refine blk_drew ?_ | refine blk_alloc ?_ _)); exact BK122.out⟩, ⟨(zb1 HB)⟩⟩
     case rest =>
      clear HC16
      try clear c1
      try clear p1
      try clear q1
      try clear hx1
      try clear p2
      try clear c5
      try clear c5b0
      try clear c6
      try clear c6b0
      try clear p6
      try clear c7
      try clear c8
      try clear c8b0
      try clear p12
      try clear q12
      try clear hx12
      try clear c14
      try clear c14b0
      try clear c14b1
      try clear c15
      try clear c15b0
      try clear c15b1
      try clear c17
      try clear q17
      try clear c18
      try clear c18b0
      try clear hx123_0
      try clear hx123_1
      try clear hx123_2
      try clear hx123_3
      try clear hx129_0
      try clear hx129_1
      try clear hx129_2
      try clear hx129_3
      try clear p1
      try clear p12
      try clear p123
      try clear p129
      try clear p2
      try clear p6
      try clear q017
      try clear q1
      try clear q12
      try clear q123
      try clear q129
      try clear q17
      obtain ⟨kq, x38_15, rfl, HA, HJ15, BK122, HB⟩ := hcut
      cases kq with
      | zero => exact absurd HA.out (by simp [spec_poPut.j2])
      | succ kj15 =>
       have H := HA.out
       clear HA
       simp only [spec_poPut.j2] at H
       by_cases c23 : x38_15 = true
       ·
        subst c23
        have H1 : (if 0 ≤ x5_2 then (if x5_2 < (l0.length : Int) then (if 0 ≤ (wrap64 (x5_2 + 1)) then (if (wrap64 (x5_2 + 1)) ≤ (l0.length : Int) then ((some (l0.drop ((wrap64 (x5_2 + 1)) : Int).toNat : List (S51))).bind fun y132 => ((some (([] : List (S51)) : List (S51))).bind fun y136 => (if x5_2 ≤ (l0.length : Int) then ((some (l0.take (x5_2 : Int).toNat : List (S51))).bind fun y139 => (if y136.length + y139.length < 4398046511104 then ((some (y136 ++ y139 : List (S51))).bind fun y143 => (if (wrap64 (a1_0 + ((rd_T51 l0 x5_2).f0))) = 0 then (if y143.length + y132.length < 4398046511104 then (some (y143 ++ y132)) else (none)) else (if y143.length < 4398046511104 then ((some (y143 ++ [(⟨wrap64 (a1_0 + ((rd_T51 l0 x5_2).f0)), a1_1, a1_2, a1_3⟩ : S51)] : List (S51))).bind fun y149 => (if y149.length + y132.length < 4398046511104 then (some (y149 ++ y132)) else (none))) else (none)))) else (none))) else (none)))) else (none)) else (none)) else (none)) else (none)) = some r := by rw [if_pos rfl] at H; exact H
        clear H
        have H := H1
        clear H1
        by_cases c24 : 0 ≤ x5_2
        ·
         rw [if_pos c24] at H
         have c24b0 : decide (0 ≤ x5_2) = true := decide_eq_true c24
         clear c24
         by_cases c25 : x5_2 < (l0.length : Int)
         ·
          rw [if_pos c25] at H
          have c25b0 : decide (x5_2 < (l0.length : Int)) = true := decide_eq_true c25
          clear c25
          obtain ⟨ji26, hji26⟩ : ∃ j_ : Int, (wrap64 (x5_2 + 1)) = j_ := ⟨_, rfl⟩
          replace H : (if 0 ≤ (ji26) then (if (ji26) ≤ (l0.length : Int) then ((some (l0.drop ((ji26) : Int).toNat : List (S51))).bind fun y132 => ((some (([] : List (S51)) : List (S51))).bind fun y136 => (if x5_2 ≤ (l0.length : Int) then ((some (l0.take (x5_2 : Int).toNat : List (S51))).bind fun y139 => (if y136.length + y139.length < 4398046511104 then ((some (y136 ++ y139 : List (S51))).bind fun y143 => (if (wrap64 (a1_0 + ((rd_T51 l0 x5_2).f0))) = 0 then (if y143.length + y132.length < 4398046511104 then (some (y143 ++ y132)) else (none)) else (if y143.length < 4398046511104 then ((some (y143 ++ [(⟨wrap64 (a1_0 + ((rd_T51 l0 x5_2).f0)), a1_1, a1_2, a1_3⟩ : S51)] : List (S51))).bind fun y149 => (if y149.length + y132.length < 4398046511104 then (some (y149 ++ y132)) else (none))) else (none)))) else (none))) else (none)))) else (none)) else (none)) = some r := by first | (rw [hji26] at H; exact H) | (simp only [hji26] at H ⊢; exact H)
          have hji26w : (IntKind.i64.wrap (x5_2 + 1)) = ji26 := (i64_w _).trans hji26
          by_cases c27 : 0 ≤ (ji26)
          ·
           rw [if_pos c27] at H
           have c27b0 := eq_true c27
           have c27b1 : decide (0 ≤ (ji26)) = true := decide_eq_true c27
           clear c27
           by_cases c28 : (ji26) ≤ (l0.length : Int)
           ·
            rw [if_pos c28] at H
            have c28b0 := eq_true c28
            have c28b1 : decide ((ji26) ≤ (l0.length : Int)) = true := decide_eq_true c28
            clear c28
            obtain ⟨y132, hy132⟩ : ∃ y_ : List (S51), y_ = (l0.drop ((ji26) : Int).toNat) := ⟨_, rfl⟩
            replace H : ((some (([] : List (S51)) : List (S51))).bind fun y136 => (if x5_2 ≤ (l0.length : Int) then ((some (l0.take (x5_2 : Int).toNat : List (S51))).bind fun y139 => (if y136.length + y139.length < 4398046511104 then ((some (y136 ++ y139 : List (S51))).bind fun y143 => (if (wrap64 (a1_0 + ((rd_T51 l0 x5_2).f0))) = 0 then (if y143.length + y132.length < 4398046511104 then (some (y143 ++ y132)) else (none)) else (if y143.length < 4398046511104 then ((some (y143 ++ [(⟨wrap64 (a1_0 + ((rd_T51 l0 x5_2).f0)), a1_1, a1_2, a1_3⟩ : S51)] : List (S51))).bind fun y149 => (if y149.length + y132.length < 4398046511104 then (some (y149 ++ y132)) else (none))) else (none)))) else (none))) else (none))) = some r := by first | (rw [hy132]; with_reducible exact H) | (have H2_ := (Option.bind_some _ _).symm.trans H; rw [hy132]; with_reducible exact H2_) | (have H2_ := (Option.bind_some _ _).symm.trans H; with_reducible exact H2_) | with_reducible exact H | (rw [hy132]; exact H) | exact H
            have Ny132 := Aside0.mk hy132
            clear hy132
            obtain ⟨y136, hy136⟩ : ∃ y_ : List (S51), y_ = (([] : List (S51))) := ⟨_, rfl⟩
            replace H : (if x5_2 ≤ (l0.length : Int) then ((some (l0.take (x5_2 : Int).toNat : List (S51))).bind fun y139 => (if y136.length + y139.length < 4398046511104 then ((some (y136 ++ y139 : List (S51))).bind fun y143 => (if (wrap64 (a1_0 + ((rd_T51 l0 x5_2).f0))) = 0 then (if y143.length + y132.length < 4398046511104 then (some (y143 ++ y132)) else (none)) else (if y143.length < 4398046511104 then ((some (y143 ++ [(⟨wrap64 (a1_0 + ((rd_T51 l0 x5_2).f0)), a1_1, a1_2, a1_3⟩ : S51)] : List (S51))).bind fun y149 => (if y149.length + y132.length < 4398046511104 then (some (y149 ++ y132)) else (none))) else (none)))) else (none))) else (none)) = some r := by first | (rw [hy136]; with_reducible exact H) | (have H2_ := (Option.bind_some _ _).symm.trans H; rw [hy136]; with_reducible exact H2_) | (have H2_ := (Option.bind_some _ _).symm.trans H; with_reducible exact H2_) | with_reducible exact H | (rw [hy136]; exact H) | exact H
            have Ny136 := Aside0.mk hy136
            clear hy136
            have c29b0 := eq_true (of_decide_eq_true (by first | (with_reducible assumption) | assumption) : 0 ≤ x5_2)
            by_cases c30 : x5_2 ≤ (l0.length : Int)
            ·
             rw [if_pos c30] at H
             have c30b0 := eq_true c30
             have c30b1 : decide (x5_2 ≤ (l0.length : Int)) = true := decide_eq_true c30
             clear c30
             obtain ⟨y139, hy139⟩ : ∃ y_ : List (S51), y_ = (l0.take (x5_2 : Int).toNat) := ⟨_, rfl⟩
             replace H : (if y136.length + y139.length < 4398046511104 then ((some (y136 ++ y139 : List (S51))).bind fun y143 => (if (wrap64 (a1_0 + ((rd_T51 l0 x5_2).f0))) = 0 then (if y143.length + y132.length < 4398046511104 then (some (y143 ++ y132)) else (none)) else (if y143.length < 4398046511104 then ((some (y143 ++ [(⟨wrap64 (a1_0 + ((rd_T51 l0 x5_2).f0)), a1_1, a1_2, a1_3⟩ : S51)] : List (S51))).bind fun y149 => (if y149.length + y132.length < 4398046511104 then (some (y149 ++ y132)) else (none))) else (none)))) else (none)) = some r := by first | (rw [hy139]; with_reducible exact H) | (have H2_ := (Option.bind_some _ _).symm.trans H; rw [hy139]; with_reducible exact H2_) | (have H2_ := (Option.bind_some _ _).symm.trans H; with_reducible exact H2_) | with_reducible exact H | (rw [hy139]; exact H) | exact H
             have Ny139 := Aside0.mk hy139
             clear hy139
             by_cases c31 : y136.length + y139.length < 4398046511104
             ·
              rw [if_pos c31] at H
              have LMc31 := Aside0.mk c31
              clear c31
              obtain ⟨y143, hy143⟩ : ∃ y_ : List (S51), y_ = (y136 ++ y139) := ⟨_, rfl⟩
              replace H : (if (wrap64 (a1_0 + ((rd_T51 l0 x5_2).f0))) = 0 then (if y143.length + y132.length < 4398046511104 then (some (y143 ++ y132)) else (none)) else (if y143.length < 4398046511104 then ((some (y143 ++ [(⟨wrap64 (a1_0 + ((rd_T51 l0 x5_2).f0)), a1_1, a1_2, a1_3⟩ : S51)] : List (S51))).bind fun y149 => (if y149.length + y132.length < 4398046511104 then (some (y149 ++ y132)) else (none))) else (none))) = some r := by first | (rw [hy143]; with_reducible exact H) | (have H2_ := (Option.bind_some _ _).symm.trans H; rw [hy143]; with_reducible exact H2_) | (have H2_ := (Option.bind_some _ _).symm.trans H; with_reducible exact H2_) | with_reducible exact H | (rw [hy143]; exact H) | exact H
              have Ny143 := Aside0.mk hy143
              clear hy143
              by_cases c32 : (wrap64 (a1_0 + ((rd_T51 l0 x5_2).f0))) = 0
              ·
               rw [if_pos c32] at H
               have c32b0 : ((wrap64 (a1_0 + ((rd_T51 l0 x5_2).f0))) == 0) = true := beq_iff_eq.mpr c32
               have c32b1 : ((wrap64 (a1_0 + ((rd_T51 l0 x5_2).f0))) != 0) = false := bne_eq_false_iff_eq.mpr c32
               clear c32
               by_cases c33 : y143.length + y132.length < 4398046511104
               ·
                rw [if_pos c33] at H
                have LMc33 := Aside0.mk c33
                clear c33
                obtain ⟨y146, hy146⟩ : ∃ y_ : List (S51), y_ = (y143 ++ y132) := ⟨_, rfl⟩
                replace H : (some y146) = some r := by first | (rw [hy146]; with_reducible exact H) | (have H2_ := (Option.bind_some _ _).symm.trans H; rw [hy146]; with_reducible exact H2_) | (have H2_ := (Option.bind_some _ _).symm.trans H; with_reducible exact H2_) | with_reducible exact H | (rw [hy146]; exact H) | exact H
                have Ny146 := Aside0.mk hy146
                clear hy146
                obtain rfl := Option.some.inj H
                try go_wp2
                replace BK122 := Aside0.mk (blk_drew BK122.out); replace HB := Aside0.mk (below_drew1 HB.out)
                have p131 : 0 ≤ (x5_2 : Int) := of_decide_eq_true (by first | (with_reducible assumption) | assumption)
                have q131 : x5_2 < (l0.length : Int) := of_decide_eq_true (by first | (with_reducible assumption) | assumption)
                obtain ⟨ad131, e131, hx131_0, hx131_1, hx131_2, hx131_3⟩ := at_T51 HR0.out x5_2 p131 q131
                have hw131_3 := hx131_3; have hw131_2 := hx131_2; have hw131_1 := hx131_1; have hw131_0 := hx131_0
                cases e131
                replace hx131_0 := (HB.out.cell (World.block_lt_of_cell? w _ hx131_0)).trans hx131_0
                replace hx131_1 := (HB.out.cell (World.block_lt_of_cell? w _ hx131_1)).trans hx131_1
                replace hx131_2 := (HB.out.cell (World.block_lt_of_cell? w _ hx131_2)).trans hx131_2
                replace hx131_3 := (HB.out.cell (World.block_lt_of_cell? w _ hx131_3)).trans hx131_3
                replace p131 := eq_true p131
                replace q131 := eq_true q131
                refine start_ (n := 10) (S := fun w' => w'.cell? ⟨gb122, 0, none⟩ = some (.int .i64 a1_0) ∧ w'.cell? ⟨gb122, 1, none⟩ = some (.int .i64 a1_1) ∧ w'.cell? ⟨gb122, 2, none⟩ = some (.int .i64 a1_2) ∧ w'.cell? ⟨gb122, 3, none⟩ = some (.int .i64 a1_3) ∧ w'.cell? (ad131.add ((x5_2).toNat * 4)) = some (.int .i64 ((rd_T51 l0 x5_2).f0)) ∧ w'.cell? ⟨(ad131.add ((x5_2).toNat * 4)).block, (ad131.add ((x5_2).toNat * 4)).off + 1, none⟩ = some (.int .i64 ((rd_T51 l0 x5_2).f1)) ∧ w'.cell? ⟨(ad131.add ((x5_2).toNat * 4)).block, (ad131.add ((x5_2).toNat * 4)).off + 2, none⟩ = some (.int .i64 ((rd_T51 l0 x5_2).f2)) ∧ w'.cell? ⟨(ad131.add ((x5_2).toNat * 4)).block, (ad131.add ((x5_2).toNat * 4)).off + 3, none⟩ = some (.int .i64 ((rd_T51 l0 x5_2).f3))) (ds := [9]) #[false, false, false, false, false, false, false, false, false, false] (by kernel_rfl) rfl rfl ⟨zc BK122 0, zc BK122 1, zc BK122 2, zc BK122 3, ((HB.out.cell (World.block_lt_of_cell? w _ hw131_0)).trans hw131_0), ((HB.out.cell (World.block_lt_of_cell? w _ hw131_1)).trans hw131_1), ((HB.out.cell (World.block_lt_of_cell? w _ hw131_2)).trans hw131_2), ((HB.out.cell (World.block_lt_of_cell? w _ hw131_3)).trans hw131_3)⟩ (fun hHeld => ?_); refine with_tabW spec_poPut.tab6 spec_poPut.bits6 (fun HT_ HW_ => ?_)
                generalize wc.drew = w34 at BK122 HB hx131_0 hx131_1 hx131_2 hx131_3 hHeld ⊢
                refine zp (i := 0) (N := some 39) #[true, false, false, false, false, false, false, false, false, false] (any_of HT_.out (by kernel_rfl)) ?_
                refine zp (i := 2) (N := some 41) #[true, false, true, false, false, false, false, false, false, false] (any_of HT_.out (by kernel_rfl)) ?_
                refine zp (i := 3) (N := some 42) #[true, false, true, true, false, false, false, false, false, false] (any_of HT_.out (by kernel_rfl)) ?_
                refine zp (i := 4) (N := some 43) #[true, false, true, true, true, false, false, false, false, false] (any_of HT_.out (by kernel_rfl)) ?_
                refine zp (i := 5) (N := some 44) #[true, false, true, true, true, true, false, false, false, false] (any_of HT_.out (by kernel_rfl)) ?_
                refine take_ (i := 1) (N := some 40) (v := ?_) (a' := ?_) #[true, true, true, true, true, true, false, false, false, false] rfl rfl (take_ofW HT_.out HW_.out (by kernel_rfl)) (fun _ _ _ h => h) (Or.inl ⟨by rfl, ?_⟩) hHeld ?_ ?_
                rotate_left
                ·
                 rintro w' ⟨s0, s1, s2, s3, s4, s5, s6, s7⟩
                 go_simp
                 with_reducible rfl
                rotate_left
                ·
                 simp only [Act.put, List.setIfInBounds_toArray, List.set_cons_zero, List.set_cons_succ, i64_w, i32_w]
                 rfl
                refine take_ (i := 6) (N := some 45) (v := ?_) (a' := ?_) #[true, true, true, true, true, true, true, false, false, false] rfl rfl (take_ofW HT_.out HW_.out (by kernel_rfl)) (fun _ _ _ h => h) (Or.inl ⟨by rfl, ?_⟩) hHeld ?_ ?_
                rotate_left
                ·
                 rintro w' ⟨s0, s1, s2, s3, s4, s5, s6, s7⟩
                 go_simp
                 with_reducible rfl
                rotate_left
                ·
                 simp only [Act.put, List.setIfInBounds_toArray, List.set_cons_zero, List.set_cons_succ, i64_w, i32_w]
                 rfl
                refine zp (i := 7) (N := some 46) #[true, true, true, true, true, true, true, true, false, false] (any_of HT_.out (by kernel_rfl)) ?_
                refine zp (i := 8) (N := some 47) #[true, true, true, true, true, true, true, true, true, false] (any_of HT_.out (by kernel_rfl)) ?_
                refine last_ (i := 9) (N := none) #[true, true, true, true, true, true, true, true, true, true] rfl rfl (one_of HT_.out (by kernel_rfl)) (by decide) (fun K hK => ?_)
                have hs35 : w34.cell? ⟨gb122, 0, none⟩ = some (.int .i64 a1_0) := zc BK122 0
                have hfs35 := blk_frozen BK122.out 0
                refine skip_ (w1 := ?_) (by rfl) rfl ?_ ?_
                rotate_left
                ·
                 go_simp
                 rfl
                refine hK.out _ _ ?_
                clear hK K
                refine done_ (done_of HT_.out (by kernel_rfl)) ?_
                have n0_ : Aside0 ((w34.setCell ⟨gb122, 0, none⟩ (.int .i64 (wrap64 (a1_0 + ((rd_T51 l0 x5_2).f0))))).heap[gb122]? = some (.cells #[.int .i64 (wrap64 (a1_0 + ((rd_T51 l0 x5_2).f0))), .int .i64 a1_1, .int .i64 a1_2, .int .i64 a1_3] 51 (0, 0))) := ⟨by (with_reducible repeat (first | refine blk_drewN ?_ _ | refine blk_drew ?_ | refine blk_alloc ?_ _)); refine blk_put (cs := #[.int .i64 a1_0, .int .i64 a1_1, .int .i64 a1_2, .int .i64 a1_3]) ?_ 0 _ rfl; (with_reducible repeat (first | refine blk_drewN ?_ _ | refine blk_drew ?_ | refine blk_alloc ?_ _)); exact BK122.out⟩
                have n1_ : Aside0 (Below w.heap.size w (w34.setCell ⟨gb122, 0, none⟩ (.int .i64 (wrap64 (a1_0 + ((rd_T51 l0 x5_2).f0)))))) := ⟨(zb1 HB)⟩
                (try clear BK122)
                (try clear HB)
                generalize (w34.setCell ⟨gb122, 0, none⟩ (.int .i64 (wrap64 (a1_0 + ((rd_T51 l0 x5_2).f0))))) = w36 at n0_ n1_ ⊢
                have BK122 := n0_; have HB := n1_
                clear n0_ n1_
                have q37 : ((ji26) : Int) ≤ ((l0.length : Int) : Int) := of_decide_eq_true (by first | (with_reducible assumption) | assumption)
                obtain ⟨i037, hi037, _, hsz37, _⟩ := info_parts info51
                have hroom37 : l0.length ≤ c0 := HC0.out
                have hC37 : Kd.C k51 _ (some ad131) l0.length l0 := HR0.out
                have q037 : (0 : Int) ≤ ((ji26) : Int) := of_decide_eq_true (by first | (with_reducible assumption) | assumption)
                have hcut37 := cut_from (P := Try.prog) 25 51 .i64 Try.underlying25 hi037 4 hsz37 (some ad131) l0.length c0 (ji26) q037 q37
                have hr37 := Kd.C_drop (m := ((ji26) : Int).toNat) (c := c0) hC37 (by omega) hroom37
                obtain ⟨A37, hA37⟩ : ∃ A1, A1 = (if c0 = ((ji26) : Int).toNat then (some ad131) else ((some ad131) : Option Addr).map (·.add (((ji26) : Int).toNat * 4))) := ⟨_, rfl⟩
                obtain ⟨c37, hc37⟩ : ∃ c1, c1 = c0 - ((ji26) : Int).toNat := ⟨_, rfl⟩
                have hy37 : y132.length = l0.length - ((ji26) : Int).toNat := (by rw [Ny132.out, List.length_drop] <;> omega)
                rw [show (l0).drop ((ji26) : Int).toNat = y132 from Ny132.out.symm] at hr37
                replace hr37 : Kd.C k51 _ A37 y132.length y132 := (by rw [hA37]; exact hr37)
                rw [← hy37, ← hA37, ← hc37] at hcut37
                have HR135 := Aside0.mk hr37
                have HC135 := Aside0.mk (show y132.length ≤ c37 from by rw [hy37, hc37]; exact Nat.sub_le_sub_right hroom37 _)
                clear hr37 hC37 hroom37 hi037 hsz37 hc37
                have KY37 := Aside0.mk hy37
                have KA37 := Aside0.mk hA37
                clear hy37 hA37
                replace q37 := eq_true q37
                try go_wp2_with (first | ((with_reducible refine gate_dst (N := 52) rfl ?_); refine Kd.R_lit k51 _ 51 ?hg (N := 52) ?hd (xs := ([] : List (S51))) (inner := []) (ok := fun _ => True) (okp := fun _ => True) ?hr ?hp (fun _ hk => hk) trivial (Below.refl _ _) (Nat.le_refl _) (by simp) ?_; (case hd => rfl); (case hg => rfl); (case hr => first | (go_simp; done) | (go_simp; rfl)); (case hp => exact (Reps.none _ _)); intro v137 w38 ho39 hb hg_ hnew_; clear hg_ hnew_; (first | rw [← Ny136.out] at ho39 | (simp only [Int.reduceToNat] at ho39; rw [← Ny136.out] at ho39)); have HO138 := Aside0.mk (Kd.R_lower (Kd.R_newB ho39 (g := gb122) (o := .cells #[.int .i64 (wrap64 (a1_0 + ((rd_T51 l0 x5_2).f0))), .int .i64 a1_1, .int .i64 a1_2, .int .i64 a1_3] 51 (0, 0)) (zq1 BK122)) (below_size (zb1 HB))); replace BK122 := Aside0.mk (zbb BK122 hb); replace HB := Aside0.mk (below_step (zb1 HB) hb); clear hb ho39; have q40 : (x5_2 : Int) ≤ ((l0.length : Int) : Int) := of_decide_eq_true (by first | (with_reducible assumption) | assumption); obtain ⟨i040, hi040, _, hsz40, _⟩ := info_parts info51; have hroom40 : l0.length ≤ c0 := HC0.out; have hC40 : Kd.C k51 _ (some ad131) l0.length l0 := HR0.out; have hcut40 := cut_to (P := Try.prog) 25 51 .i64 Try.underlying25 hi040 (some ad131) l0.length c0 x5_2 (of_decide_eq_true (by first | (with_reducible assumption) | assumption)) q40 hroom40; have hr40 := Kd.C_take (m := (x5_2 : Int).toNat) hC40 (by omega); have hy40 : y139.length = (x5_2 : Int).toNat := (by rw [Ny139.out, List.length_take]; omega); rw [← Ny139.out] at hr40; rw [← hy40] at hcut40; have HR142 := Aside0.mk hr40; have HC142 := Aside0.mk (show y139.length ≤ c0 from by omega); clear hr40 hC40 hroom40 hi040 hsz40; have KY40 := Aside0.mk hy40; clear hy40; replace q40 := eq_true q40) | ((with_reducible refine gate_builtin (b := .append) (xs := #[.tmp 52, .tmp 55]) rfl ?_); at_builtin; refine Kd.R_append_rows k51 (w0 := w) w.heap.size rfl (.tmp 52) (.tmp 55) 25 51 (.agg #[(.int .i64 0), (.int .i64 0), (.int .i64 0), (.int .i64 0)]) 32 rfl Try.underlying25 info51 rfl (by decide) (by omega) v137 y136 y139 _ _ _ (fun k_ => k_ ≠ gb122) (fun _ => False) rfl rfl ?aO ?aR (fun _ _ h => h) (fun _ h => h.elim) ?aF ?aB ?aS ?aL ?_; (case aR => repeat (first | exact (Kd.C_below HR142.out HB.out) | (with_reducible refine Kd.C_alloc ?_ _) | (with_reducible refine Kd.C_drewN ?_ _) | (with_reducible refine Kd.C_drew ?_))); (case aB => exact (zb1 HB)); (case aF => exact (fun k_ hk => Kd.freshB (g := gb122) (o := .cells #[.int .i64 (wrap64 (a1_0 + ((rd_T51 l0 x5_2).f0))), .int .i64 a1_1, .int .i64 a1_2, .int .i64 a1_3] 51 (0, 0)) (zq1 BK122) k_ hk)); (case aO => exact (by (with_reducible repeat (first | apply Kd.R_alloc | apply Kd.R_drewN | apply Kd.R_drew)); exact Kd.R_mono HO138.out (fun _ hk => hk.2))); (case aS => exact (below_size (zb1 HB))); (case aL => have := LMc31.out; omega); intro v144 w41 ho hb hg hat; rw [← Ny143.out] at ho; have HO145 := Aside0.mk (ho); replace BK122 := Aside0.mk (blk_grown (g := gb122) (o := .cells #[.int .i64 (wrap64 (a1_0 + ((rd_T51 l0 x5_2).f0))), .int .i64 a1_1, .int .i64 a1_2, .int .i64 a1_3] 51 (0, 0)) (zq1 BK122) hg (Kd.R_away HO138.out (fun _ hk => hk.2))); replace HB := Aside0.mk (hb); clear HO138; clear ho hb hg hat; have hcz42_0 : w41.cell? ⟨gb122, 0, none⟩ = some (.int .i64 (wrap64 (a1_0 + ((rd_T51 l0 x5_2).f0)))) := zc BK122 0; have hcz42_1 : w41.cell? ⟨gb122, 1, none⟩ = some (.int .i64 a1_1) := zc BK122 1; have hcz42_2 : w41.cell? ⟨gb122, 2, none⟩ = some (.int .i64 a1_2) := zc BK122 2; have hcz42_3 : w41.cell? ⟨gb122, 3, none⟩ = some (.int .i64 a1_3) := zc BK122 3; have hfz42_0 := blk_frozen BK122.out 0; have hfz42_1 := blk_frozen BK122.out 1; have hfz42_2 := blk_frozen BK122.out 2; have hfz42_3 := blk_frozen BK122.out 3) | ((with_reducible refine gate_builtin (b := .append) (xs := #[.tmp 64, .tmp 65]) rfl ?_); at_builtin; refine Kd.R_append_rows k51 (w0 := w) w.heap.size rfl (.tmp 64) (.tmp 65) 25 51 (.agg #[(.int .i64 0), (.int .i64 0), (.int .i64 0), (.int .i64 0)]) 32 rfl Try.underlying25 info51 rfl (by decide) (by omega) v144 y143 y132 _ _ _ (fun k_ => k_ ≠ gb122) (fun _ => False) rfl rfl ?aO ?aR (fun _ _ h => h) (fun _ h => h.elim) ?aF ?aB ?aS ?aL ?_; (case aR => repeat (first | exact (Kd.C_below HR135.out HB.out) | (with_reducible refine Kd.C_alloc ?_ _) | (with_reducible refine Kd.C_drewN ?_ _) | (with_reducible refine Kd.C_drew ?_))); (case aB => exact (zb1 HB)); (case aF => exact (fun k_ hk => Kd.freshB (g := gb122) (o := .cells #[.int .i64 (wrap64 (a1_0 + ((rd_T51 l0 x5_2).f0))), .int .i64 a1_1, .int .i64 a1_2, .int .i64 a1_3] 51 (0, 0)) (zq1 BK122) k_ hk)); (case aO => exact (zq3 HO145)); (case aS => exact (below_size (zb1 HB))); (case aL => have := LMc33.out; omega); intro v147 w43 ho hb hg hat; rw [← Ny146.out] at ho; have HO148 := Aside0.mk (ho); replace BK122 := Aside0.mk (blk_grown (g := gb122) (o := .cells #[.int .i64 (wrap64 (a1_0 + ((rd_T51 l0 x5_2).f0))), .int .i64 a1_1, .int .i64 a1_2, .int .i64 a1_3] 51 (0, 0)) (zq1 BK122) hg (Kd.R_away HO145.out (fun _ hk => hk))); replace HB := Aside0.mk (hb); clear HO145; clear ho hb hg hat))
                go_ret
                exact ⟨_, by first | rfl | (simp [errW_none, errW_some] <;> rfl) | (simp only [← hji26]; first | rfl | (simp [errW_none, errW_some] <;> rfl)) | (simp [*, errW_none, errW_some] <;> rfl), by (with_reducible repeat (first | apply Kd.R_alloc | apply Kd.R_drewN | apply Kd.R_drew)); exact Kd.R_mono HO148.out (fun _ hk => trivial), (zb1 HB)⟩
               ·
                rw [if_neg c33] at H
                exact absurd H (by simp)
              ·
               rw [if_neg c32] at H
               have c32b0 : ((wrap64 (a1_0 + ((rd_T51 l0 x5_2).f0))) == 0) = false := beq_eq_false_iff_ne.mpr c32
               have c32b1 : ((wrap64 (a1_0 + ((rd_T51 l0 x5_2).f0))) != 0) = true := bne_iff_ne.mpr c32
               by_cases c44 : y143.length < 4398046511104
               ·
                rw [if_pos c44] at H
                have LMc44 := Aside0.mk c44
                clear c44
                obtain ⟨y149, hy149⟩ : ∃ y_ : List (S51), y_ = (y143 ++ [(⟨wrap64 (a1_0 + ((rd_T51 l0 x5_2).f0)), a1_1, a1_2, a1_3⟩ : S51)]) := ⟨_, rfl⟩
                replace H : (if y149.length + y132.length < 4398046511104 then (some (y149 ++ y132)) else (none)) = some r := by first | (rw [hy149]; with_reducible exact H) | (have H2_ := (Option.bind_some _ _).symm.trans H; rw [hy149]; with_reducible exact H2_) | (have H2_ := (Option.bind_some _ _).symm.trans H; with_reducible exact H2_) | with_reducible exact H | (rw [hy149]; exact H) | exact H
                have Ny149 := Aside0.mk hy149
                clear hy149
                by_cases c45 : y149.length + y132.length < 4398046511104
                ·
                 rw [if_pos c45] at H
                 have LMc45 := Aside0.mk c45
                 clear c45
                 obtain ⟨y152, hy152⟩ : ∃ y_ : List (S51), y_ = (y149 ++ y132) := ⟨_, rfl⟩
                 replace H : (some y152) = some r := by first | (rw [hy152]; with_reducible exact H) | (have H2_ := (Option.bind_some _ _).symm.trans H; rw [hy152]; with_reducible exact H2_) | (have H2_ := (Option.bind_some _ _).symm.trans H; with_reducible exact H2_) | with_reducible exact H | (rw [hy152]; exact H) | exact H
                 have Ny152 := Aside0.mk hy152
                 clear hy152
                 obtain rfl := Option.some.inj H
                 try go_wp2
                 replace BK122 := Aside0.mk (blk_drew BK122.out); replace HB := Aside0.mk (below_drew1 HB.out)
                 have p131 : 0 ≤ (x5_2 : Int) := of_decide_eq_true (by first | (with_reducible assumption) | assumption)
                 have q131 : x5_2 < (l0.length : Int) := of_decide_eq_true (by first | (with_reducible assumption) | assumption)
                 obtain ⟨ad131, e131, hx131_0, hx131_1, hx131_2, hx131_3⟩ := at_T51 HR0.out x5_2 p131 q131
                 have hw131_3 := hx131_3; have hw131_2 := hx131_2; have hw131_1 := hx131_1; have hw131_0 := hx131_0
                 cases e131
                 replace hx131_0 := (HB.out.cell (World.block_lt_of_cell? w _ hx131_0)).trans hx131_0
                 replace hx131_1 := (HB.out.cell (World.block_lt_of_cell? w _ hx131_1)).trans hx131_1
                 replace hx131_2 := (HB.out.cell (World.block_lt_of_cell? w _ hx131_2)).trans hx131_2
                 replace hx131_3 := (HB.out.cell (World.block_lt_of_cell? w _ hx131_3)).trans hx131_3
                 replace p131 := eq_true p131
                 replace q131 := eq_true q131
                 refine start_ (n := 10) (S := fun w' => w'.cell? ⟨gb122, 0, none⟩ = some (.int .i64 a1_0) ∧ w'.cell? ⟨gb122, 1, none⟩ = some (.int .i64 a1_1) ∧ w'.cell? ⟨gb122, 2, none⟩ = some (.int .i64 a1_2) ∧ w'.cell? ⟨gb122, 3, none⟩ = some (.int .i64 a1_3) ∧ w'.cell? (ad131.add ((x5_2).toNat * 4)) = some (.int .i64 ((rd_T51 l0 x5_2).f0)) ∧ w'.cell? ⟨(ad131.add ((x5_2).toNat * 4)).block, (ad131.add ((x5_2).toNat * 4)).off + 1, none⟩ = some (.int .i64 ((rd_T51 l0 x5_2).f1)) ∧ w'.cell? ⟨(ad131.add ((x5_2).toNat * 4)).block, (ad131.add ((x5_2).toNat * 4)).off + 2, none⟩ = some (.int .i64 ((rd_T51 l0 x5_2).f2)) ∧ w'.cell? ⟨(ad131.add ((x5_2).toNat * 4)).block, (ad131.add ((x5_2).toNat * 4)).off + 3, none⟩ = some (.int .i64 ((rd_T51 l0 x5_2).f3))) (ds := [9]) #[false, false, false, false, false, false, false, false, false, false] (by kernel_rfl) rfl rfl ⟨zc BK122 0, zc BK122 1, zc BK122 2, zc BK122 3, ((HB.out.cell (World.block_lt_of_cell? w _ hw131_0)).trans hw131_0), ((HB.out.cell (World.block_lt_of_cell? w _ hw131_1)).trans hw131_1), ((HB.out.cell (World.block_lt_of_cell? w _ hw131_2)).trans hw131_2), ((HB.out.cell (World.block_lt_of_cell? w _ hw131_3)).trans hw131_3)⟩ (fun hHeld => ?_); refine with_tabW spec_poPut.tab6 spec_poPut.bits6 (fun HT_ HW_ => ?_)
                 generalize wc.drew = w46 at BK122 HB hx131_0 hx131_1 hx131_2 hx131_3 hHeld ⊢
                 refine zp (i := 0) (N := some 39) #[true, false, false, false, false, false, false, false, false, false] (any_of HT_.out (by kernel_rfl)) ?_
                 refine zp (i := 2) (N := some 41) #[true, false, true, false, false, false, false, false, false, false] (any_of HT_.out (by kernel_rfl)) ?_
                 refine zp (i := 3) (N := some 42) #[true, false, true, true, false, false, false, false, false, false] (any_of HT_.out (by kernel_rfl)) ?_
                 refine zp (i := 4) (N := some 43) #[true, false, true, true, true, false, false, false, false, false] (any_of HT_.out (by kernel_rfl)) ?_
                 refine zp (i := 5) (N := some 44) #[true, false, true, true, true, true, false, false, false, false] (any_of HT_.out (by kernel_rfl)) ?_
                 refine take_ (i := 1) (N := some 40) (v := ?_) (a' := ?_) #[true, true, true, true, true, true, false, false, false, false] rfl rfl (take_ofW HT_.out HW_.out (by kernel_rfl)) (fun _ _ _ h => h) (Or.inl ⟨by rfl, ?_⟩) hHeld ?_ ?_
                 rotate_left
                 ·
                  rintro w' ⟨s0, s1, s2, s3, s4, s5, s6, s7⟩
                  go_simp
                  with_reducible rfl
                 rotate_left
                 ·
                  simp only [Act.put, List.setIfInBounds_toArray, List.set_cons_zero, List.set_cons_succ, i64_w, i32_w]
                  rfl
                 refine take_ (i := 6) (N := some 45) (v := ?_) (a' := ?_) #[true, true, true, true, true, true, true, false, false, false] rfl rfl (take_ofW HT_.out HW_.out (by kernel_rfl)) (fun _ _ _ h => h) (Or.inl ⟨by rfl, ?_⟩) hHeld ?_ ?_
                 rotate_left
                 ·
                  rintro w' ⟨s0, s1, s2, s3, s4, s5, s6, s7⟩
                  go_simp
                  with_reducible rfl
                 rotate_left
                 ·
                  simp only [Act.put, List.setIfInBounds_toArray, List.set_cons_zero, List.set_cons_succ, i64_w, i32_w]
                  rfl
                 refine zp (i := 7) (N := some 46) #[true, true, true, true, true, true, true, true, false, false] (any_of HT_.out (by kernel_rfl)) ?_
                 refine zp (i := 8) (N := some 47) #[true, true, true, true, true, true, true, true, true, false] (any_of HT_.out (by kernel_rfl)) ?_
                 refine last_ (i := 9) (N := none) #[true, true, true, true, true, true, true, true, true, true] rfl rfl (one_of HT_.out (by kernel_rfl)) (by decide) (fun K hK => ?_)
                 have hs47 : w46.cell? ⟨gb122, 0, none⟩ = some (.int .i64 a1_0) := zc BK122 0
                 have hfs47 := blk_frozen BK122.out 0
                 refine skip_ (w1 := ?_) (by rfl) rfl ?_ ?_
                 rotate_left
                 ·
                  go_simp
                  rfl
                 refine hK.out _ _ ?_
                 clear hK K
                 refine done_ (done_of HT_.out (by kernel_rfl)) ?_
                 have n0_ : Aside0 ((w46.setCell ⟨gb122, 0, none⟩ (.int .i64 (wrap64 (a1_0 + ((rd_T51 l0 x5_2).f0))))).heap[gb122]? = some (.cells #[.int .i64 (wrap64 (a1_0 + ((rd_T51 l0 x5_2).f0))), .int .i64 a1_1, .int .i64 a1_2, .int .i64 a1_3] 51 (0, 0))) := ⟨by (with_reducible repeat (first | refine blk_drewN ?_ _ | refine blk_drew ?_ | refine blk_alloc ?_ _)); refine blk_put (cs := #[.int .i64 a1_0, .int .i64 a1_1, .int .i64 a1_2, .int .i64 a1_3]) ?_ 0 _ rfl; (with_reducible repeat (first | refine blk_drewN ?_ _ | refine blk_drew ?_ | refine blk_alloc ?_ _)); exact BK122.out⟩
                 have n1_ : Aside0 (Below w.heap.size w (w46.setCell ⟨gb122, 0, none⟩ (.int .i64 (wrap64 (a1_0 + ((rd_T51 l0 x5_2).f0)))))) := ⟨(zb1 HB)⟩
                 (try clear BK122)
                 (try clear HB)
                 generalize (w46.setCell ⟨gb122, 0, none⟩ (.int .i64 (wrap64 (a1_0 + ((rd_T51 l0 x5_2).f0))))) = w48 at n0_ n1_ ⊢
                 have BK122 := n0_; have HB := n1_
                 clear n0_ n1_
                 have q49 : ((ji26) : Int) ≤ ((l0.length : Int) : Int) := of_decide_eq_true (by first | (with_reducible assumption) | assumption)
                 obtain ⟨i049, hi049, _, hsz49, _⟩ := info_parts info51
                 have hroom49 : l0.length ≤ c0 := HC0.out
                 have hC49 : Kd.C k51 _ (some ad131) l0.length l0 := HR0.out
                 have q049 : (0 : Int) ≤ ((ji26) : Int) := of_decide_eq_true (by first | (with_reducible assumption) | assumption)
                 have hcut49 := cut_from (P := Try.prog) 25 51 .i64 Try.underlying25 hi049 4 hsz49 (some ad131) l0.length c0 (ji26) q049 q49
                 have hr49 := Kd.C_drop (m := ((ji26) : Int).toNat) (c := c0) hC49 (by omega) hroom49
                 obtain ⟨A49, hA49⟩ : ∃ A1, A1 = (if c0 = ((ji26) : Int).toNat then (some ad131) else ((some ad131) : Option Addr).map (·.add (((ji26) : Int).toNat * 4))) := ⟨_, rfl⟩
                 obtain ⟨c49, hc49⟩ : ∃ c1, c1 = c0 - ((ji26) : Int).toNat := ⟨_, rfl⟩
                 have hy49 : y132.length = l0.length - ((ji26) : Int).toNat := (by rw [Ny132.out, List.length_drop] <;> omega)
                 rw [show (l0).drop ((ji26) : Int).toNat = y132 from Ny132.out.symm] at hr49
                 replace hr49 : Kd.C k51 _ A49 y132.length y132 := (by rw [hA49]; exact hr49)
                 rw [← hy49, ← hA49, ← hc49] at hcut49
                 have HR135 := Aside0.mk hr49
                 have HC135 := Aside0.mk (show y132.length ≤ c49 from by rw [hy49, hc49]; exact Nat.sub_le_sub_right hroom49 _)
                 clear hr49 hC49 hroom49 hi049 hsz49 hc49
                 have KY49 := Aside0.mk hy49
                 have KA49 := Aside0.mk hA49
                 clear hy49 hA49
                 replace q49 := eq_true q49
                 try go_wp2_with (first | ((with_reducible refine gate_dst (N := 52) rfl ?_); refine Kd.R_lit k51 _ 51 ?hg (N := 52) ?hd (xs := ([] : List (S51))) (inner := []) (ok := fun _ => True) (okp := fun _ => True) ?hr ?hp (fun _ hk => hk) trivial (Below.refl _ _) (Nat.le_refl _) (by simp) ?_; (case hd => rfl); (case hg => rfl); (case hr => first | (go_simp; done) | (go_simp; rfl)); (case hp => exact (Reps.none _ _)); intro v137 w50 ho51 hb hg_ hnew_; clear hg_ hnew_; (first | rw [← Ny136.out] at ho51 | (simp only [Int.reduceToNat] at ho51; rw [← Ny136.out] at ho51)); have HO138 := Aside0.mk (Kd.R_lower (Kd.R_newB ho51 (g := gb122) (o := .cells #[.int .i64 (wrap64 (a1_0 + ((rd_T51 l0 x5_2).f0))), .int .i64 a1_1, .int .i64 a1_2, .int .i64 a1_3] 51 (0, 0)) (zq1 BK122)) (below_size (zb1 HB))); replace BK122 := Aside0.mk (zbb BK122 hb); replace HB := Aside0.mk (below_step (zb1 HB) hb); clear hb ho51; have q52 : (x5_2 : Int) ≤ ((l0.length : Int) : Int) := of_decide_eq_true (by first | (with_reducible assumption) | assumption); obtain ⟨i052, hi052, _, hsz52, _⟩ := info_parts info51; have hroom52 : l0.length ≤ c0 := HC0.out; have hC52 : Kd.C k51 _ (some ad131) l0.length l0 := HR0.out; have hcut52 := cut_to (P := Try.prog) 25 51 .i64 Try.underlying25 hi052 (some ad131) l0.length c0 x5_2 (of_decide_eq_true (by first | (with_reducible assumption) | assumption)) q52 hroom52; have hr52 := Kd.C_take (m := (x5_2 : Int).toNat) hC52 (by omega); have hy52 : y139.length = (x5_2 : Int).toNat := (by rw [Ny139.out, List.length_take]; omega); rw [← Ny139.out] at hr52; rw [← hy52] at hcut52; have HR142 := Aside0.mk hr52; have HC142 := Aside0.mk (show y139.length ≤ c0 from by omega); clear hr52 hC52 hroom52 hi052 hsz52; have KY52 := Aside0.mk hy52; clear hy52; replace q52 := eq_true q52) | ((with_reducible refine gate_builtin (b := .append) (xs := #[.tmp 52, .tmp 55]) rfl ?_); at_builtin; refine Kd.R_append_rows k51 (w0 := w) w.heap.size rfl (.tmp 52) (.tmp 55) 25 51 (.agg #[(.int .i64 0), (.int .i64 0), (.int .i64 0), (.int .i64 0)]) 32 rfl Try.underlying25 info51 rfl (by decide) (by omega) v137 y136 y139 _ _ _ (fun k_ => k_ ≠ gb122) (fun _ => False) rfl rfl ?aO ?aR (fun _ _ h => h) (fun _ h => h.elim) ?aF ?aB ?aS ?aL ?_; (case aR => repeat (first | exact (Kd.C_below HR142.out HB.out) | (with_reducible refine Kd.C_alloc ?_ _) | (with_reducible refine Kd.C_drewN ?_ _) | (with_reducible refine Kd.C_drew ?_))); (case aB => exact (zb1 HB)); (case aF => exact (fun k_ hk => Kd.freshB (g := gb122) (o := .cells #[.int .i64 (wrap64 (a1_0 + ((rd_T51 l0 x5_2).f0))), .int .i64 a1_1, .int .i64 a1_2, .int .i64 a1_3] 51 (0, 0)) (zq1 BK122) k_ hk)); (case aO => exact (by (with_reducible repeat (first | apply Kd.R_alloc | apply Kd.R_drewN | apply Kd.R_drew)); exact Kd.R_mono HO138.out (fun _ hk => hk.2))); (case aS => exact (below_size (zb1 HB))); (case aL => have := LMc31.out; omega); intro v144 w53 ho hb hg hat; rw [← Ny143.out] at ho; have HO145 := Aside0.mk (ho); replace BK122 := Aside0.mk (blk_grown (g := gb122) (o := .cells #[.int .i64 (wrap64 (a1_0 + ((rd_T51 l0 x5_2).f0))), .int .i64 a1_1, .int .i64 a1_2, .int .i64 a1_3] 51 (0, 0)) (zq1 BK122) hg (Kd.R_away HO138.out (fun _ hk => hk.2))); replace HB := Aside0.mk (hb); clear HO138; clear ho hb hg hat; have hcz54_0 : w53.cell? ⟨gb122, 0, none⟩ = some (.int .i64 (wrap64 (a1_0 + ((rd_T51 l0 x5_2).f0)))) := zc BK122 0; have hcz54_1 : w53.cell? ⟨gb122, 1, none⟩ = some (.int .i64 a1_1) := zc BK122 1; have hcz54_2 : w53.cell? ⟨gb122, 2, none⟩ = some (.int .i64 a1_2) := zc BK122 2; have hcz54_3 : w53.cell? ⟨gb122, 3, none⟩ = some (.int .i64 a1_3) := zc BK122 3; have hfz54_0 := blk_frozen BK122.out 0; have hfz54_1 := blk_frozen BK122.out 1; have hfz54_2 := blk_frozen BK122.out 2; have hfz54_3 := blk_frozen BK122.out 3) | ((with_reducible refine gate_builtin (b := .append) (xs := #[.tmp 60, .tmp 62]) rfl ?_); at_builtin; refine Kd.R_append k51 (w0 := w) w.heap.size rfl (.tmp 60) (.tmp 62) 25 51 (.agg #[(.int .i64 0), (.int .i64 0), (.int .i64 0), (.int .i64 0)]) 32 rfl Try.underlying25 info51 rfl (by decide) (by omega) v144 y143 (⟨wrap64 (a1_0 + ((rd_T51 l0 x5_2).f0)), a1_1, a1_2, a1_3⟩ : S51) [.int .i64 (wrap64 (a1_0 + ((rd_T51 l0 x5_2).f0))), .int .i64 a1_1, .int .i64 a1_2, .int .i64 a1_3] (fun k_ => k_ ≠ gb122) (fun _ => False) rfl rfl ?aP (fun _ hk => hk.elim) ?aF ?aO ?aB ?aS ?aL ?_; (case aP => exact k51_mkM _ _ _ (⟨wrap64 (a1_0 + ((rd_T51 l0 x5_2).f0)), a1_1, a1_2, a1_3⟩ : S51)); (case aB => exact (zb1 HB)); (case aF => exact (fun k_ hk => Kd.freshB (g := gb122) (o := .cells #[.int .i64 (wrap64 (a1_0 + ((rd_T51 l0 x5_2).f0))), .int .i64 a1_1, .int .i64 a1_2, .int .i64 a1_3] 51 (0, 0)) (zq1 BK122) k_ hk)); (case aO => exact (zq3 HO145)); (case aS => exact (below_size (zb1 HB))); (case aL => have := LMc44.out; omega); intro v150 w55 ho hb hg hat; rw [← Ny149.out] at ho; have HO151 := Aside0.mk (ho); replace BK122 := Aside0.mk (blk_grown (g := gb122) (o := .cells #[.int .i64 (wrap64 (a1_0 + ((rd_T51 l0 x5_2).f0))), .int .i64 a1_1, .int .i64 a1_2, .int .i64 a1_3] 51 (0, 0)) (zq1 BK122) hg (Kd.R_away HO145.out (fun _ hk => hk))); replace HB := Aside0.mk (hb); clear HO145; clear ho hb hg hat) | ((with_reducible refine gate_builtin (b := .append) (xs := #[.tmp 64, .tmp 65]) rfl ?_); at_builtin; refine Kd.R_append_rows k51 (w0 := w) w.heap.size rfl (.tmp 64) (.tmp 65) 25 51 (.agg #[(.int .i64 0), (.int .i64 0), (.int .i64 0), (.int .i64 0)]) 32 rfl Try.underlying25 info51 rfl (by decide) (by omega) v150 y149 y132 _ _ _ (fun k_ => k_ ≠ gb122) (fun _ => False) rfl rfl ?aO ?aR (fun _ _ h => h) (fun _ h => h.elim) ?aF ?aB ?aS ?aL ?_; (case aR => repeat (first | exact (Kd.C_below HR135.out HB.out) | (with_reducible refine Kd.C_alloc ?_ _) | (with_reducible refine Kd.C_drewN ?_ _) | (with_reducible refine Kd.C_drew ?_))); (case aB => exact (zb1 HB)); (case aF => exact (fun k_ hk => Kd.freshB (g := gb122) (o := .cells #[.int .i64 (wrap64 (a1_0 + ((rd_T51 l0 x5_2).f0))), .int .i64 a1_1, .int .i64 a1_2, .int .i64 a1_3] 51 (0, 0)) (zq1 BK122) k_ hk)); (case aO => exact (zq3 HO151)); (case aS => exact (below_size (zb1 HB))); (case aL => have := LMc45.out; omega); intro v153 w56 ho hb hg hat; rw [← Ny152.out] at ho; have HO154 := Aside0.mk (ho); replace BK122 := Aside0.mk (blk_grown (g := gb122) (o := .cells #[.int .i64 (wrap64 (a1_0 + ((rd_T51 l0 x5_2).f0))), .int .i64 a1_1, .int .i64 a1_2, .int .i64 a1_3] 51 (0, 0)) (zq1 BK122) hg (Kd.R_away HO151.out (fun _ hk => hk))); replace HB := Aside0.mk (hb); clear HO151; clear ho hb hg hat))
                 go_ret
                 exact ⟨_, by first | rfl | (simp [errW_none, errW_some] <;> rfl) | (simp only [← hji26]; first | rfl | (simp [errW_none, errW_some] <;> rfl)) | (simp [*, errW_none, errW_some] <;> rfl), by (with_reducible repeat (first | apply Kd.R_alloc | apply Kd.R_drewN | apply Kd.R_drew)); exact Kd.R_mono HO154.out (fun _ hk => trivial), (zb1 HB)⟩
                ·
                 rw [if_neg c45] at H
                 exact absurd H (by simp)
               ·
                rw [if_neg c44] at H
                exact absurd H (by simp)
             ·
              rw [if_neg c31] at H
              exact absurd H (by simp)
            ·
             rw [if_neg c30] at H
             exact absurd H (by simp)
           ·
            rw [if_neg c28] at H
            exact absurd H (by simp)
          ·
           rw [if_neg c27] at H
           exact absurd H (by simp)
         ·
          rw [if_neg c25] at H
          exact absurd H (by simp)
        ·
         rw [if_neg c24] at H
         exact absurd H (by simp)
       ·
        replace c23 := Bool.eq_false_iff.mpr c23
        subst c23
        have H1 : ((some (([] : List (S51)) : List (S51))).bind fun y155 => (if 0 ≤ x5_2 then (if x5_2 ≤ (l0.length : Int) then ((some (l0.take (x5_2 : Int).toNat : List (S51))).bind fun y158 => (if y155.length + y158.length < 4398046511104 then ((some (y155 ++ y158 : List (S51))).bind fun y162 => (if a1_0 = 0 then (if y162.length + y125.length < 4398046511104 then (some (y162 ++ y125)) else (none)) else (if y162.length < 4398046511104 then ((some (y162 ++ [(⟨a1_0, a1_1, a1_2, a1_3⟩ : S51)] : List (S51))).bind fun y168 => (if y168.length + y125.length < 4398046511104 then (some (y168 ++ y125)) else (none))) else (none)))) else (none))) else (none)) else (none))) = some r := by rw [if_neg (show ¬ (false = true) by decide)] at H; exact H
        clear H
        have H := H1
        clear H1
        obtain ⟨y155, hy155⟩ : ∃ y_ : List (S51), y_ = (([] : List (S51))) := ⟨_, rfl⟩
        replace H : (if 0 ≤ x5_2 then (if x5_2 ≤ (l0.length : Int) then ((some (l0.take (x5_2 : Int).toNat : List (S51))).bind fun y158 => (if y155.length + y158.length < 4398046511104 then ((some (y155 ++ y158 : List (S51))).bind fun y162 => (if a1_0 = 0 then (if y162.length + y125.length < 4398046511104 then (some (y162 ++ y125)) else (none)) else (if y162.length < 4398046511104 then ((some (y162 ++ [(⟨a1_0, a1_1, a1_2, a1_3⟩ : S51)] : List (S51))).bind fun y168 => (if y168.length + y125.length < 4398046511104 then (some (y168 ++ y125)) else (none))) else (none)))) else (none))) else (none)) else (none)) = some r := by first | (rw [hy155]; with_reducible exact H) | (have H2_ := (Option.bind_some _ _).symm.trans H; rw [hy155]; with_reducible exact H2_) | (have H2_ := (Option.bind_some _ _).symm.trans H; with_reducible exact H2_) | with_reducible exact H | (rw [hy155]; exact H) | exact H
        have Ny155 := Aside0.mk hy155
        clear hy155
        by_cases c57 : 0 ≤ x5_2
        ·
         rw [if_pos c57] at H
         have c57b0 := eq_true c57
         have c57b1 : decide (0 ≤ x5_2) = true := decide_eq_true c57
         clear c57
         by_cases c58 : x5_2 ≤ (l0.length : Int)
         ·
          rw [if_pos c58] at H
          have c58b0 := eq_true c58
          have c58b1 : decide (x5_2 ≤ (l0.length : Int)) = true := decide_eq_true c58
          clear c58
          obtain ⟨y158, hy158⟩ : ∃ y_ : List (S51), y_ = (l0.take (x5_2 : Int).toNat) := ⟨_, rfl⟩
          replace H : (if y155.length + y158.length < 4398046511104 then ((some (y155 ++ y158 : List (S51))).bind fun y162 => (if a1_0 = 0 then (if y162.length + y125.length < 4398046511104 then (some (y162 ++ y125)) else (none)) else (if y162.length < 4398046511104 then ((some (y162 ++ [(⟨a1_0, a1_1, a1_2, a1_3⟩ : S51)] : List (S51))).bind fun y168 => (if y168.length + y125.length < 4398046511104 then (some (y168 ++ y125)) else (none))) else (none)))) else (none)) = some r := by first | (rw [hy158]; with_reducible exact H) | (have H2_ := (Option.bind_some _ _).symm.trans H; rw [hy158]; with_reducible exact H2_) | (have H2_ := (Option.bind_some _ _).symm.trans H; with_reducible exact H2_) | with_reducible exact H | (rw [hy158]; exact H) | exact H
          have Ny158 := Aside0.mk hy158
          clear hy158
          by_cases c59 : y155.length + y158.length < 4398046511104
          ·
           rw [if_pos c59] at H
           have LMc59 := Aside0.mk c59
           clear c59
           obtain ⟨y162, hy162⟩ : ∃ y_ : List (S51), y_ = (y155 ++ y158) := ⟨_, rfl⟩
           replace H : (if a1_0 = 0 then (if y162.length + y125.length < 4398046511104 then (some (y162 ++ y125)) else (none)) else (if y162.length < 4398046511104 then ((some (y162 ++ [(⟨a1_0, a1_1, a1_2, a1_3⟩ : S51)] : List (S51))).bind fun y168 => (if y168.length + y125.length < 4398046511104 then (some (y168 ++ y125)) else (none))) else (none))) = some r := by first | (rw [hy162]; with_reducible exact H) | (have H2_ := (Option.bind_some _ _).symm.trans H; rw [hy162]; with_reducible exact H2_) | (have H2_ := (Option.bind_some _ _).symm.trans H; with_reducible exact H2_) | with_reducible exact H | (rw [hy162]; exact H) | exact H
           have Ny162 := Aside0.mk hy162
           clear hy162
           by_cases c60 : a1_0 = 0
           ·
            rw [if_pos c60] at H
            have c60b0 : (a1_0 == 0) = true := beq_iff_eq.mpr c60
            have c60b1 : (a1_0 != 0) = false := bne_eq_false_iff_eq.mpr c60
            clear c60
            by_cases c61 : y162.length + y125.length < 4398046511104
            ·
             rw [if_pos c61] at H
             have LMc61 := Aside0.mk c61
             clear c61
             obtain ⟨y165, hy165⟩ : ∃ y_ : List (S51), y_ = (y162 ++ y125) := ⟨_, rfl⟩
             replace H : (some y165) = some r := by first | (rw [hy165]; with_reducible exact H) | (have H2_ := (Option.bind_some _ _).symm.trans H; rw [hy165]; with_reducible exact H2_) | (have H2_ := (Option.bind_some _ _).symm.trans H; with_reducible exact H2_) | with_reducible exact H | (rw [hy165]; exact H) | exact H
             have Ny165 := Aside0.mk hy165
             clear hy165
             obtain rfl := Option.some.inj H
             go_wp2_with (first | ((with_reducible refine gate_dst (N := 52) rfl ?_); refine Kd.R_lit k51 _ 51 ?hg (N := 52) ?hd (xs := ([] : List (S51))) (inner := []) (ok := fun _ => True) (okp := fun _ => True) ?hr ?hp (fun _ hk => hk) trivial (Below.refl _ _) (Nat.le_refl _) (by simp) ?_; (case hd => rfl); (case hg => rfl); (case hr => first | (go_simp; done) | (go_simp; rfl)); (case hp => exact (Reps.none _ _)); intro v156 w62 ho63 hb hg_ hnew_; clear hg_ hnew_; (first | rw [← Ny155.out] at ho63 | (simp only [Int.reduceToNat] at ho63; rw [← Ny155.out] at ho63)); have HO157 := Aside0.mk (Kd.R_lower (Kd.R_newB ho63 (g := gb122) (o := .cells #[.int .i64 a1_0, .int .i64 a1_1, .int .i64 a1_2, .int .i64 a1_3] 51 (0, 0)) (zq1 BK122)) (below_size (zb1 HB))); replace BK122 := Aside0.mk (zbb BK122 hb); replace HB := Aside0.mk (below_step (zb1 HB) hb); clear hb ho63; have q64 : (x5_2 : Int) ≤ ((l0.length : Int) : Int) := of_decide_eq_true (by first | (with_reducible assumption) | assumption); obtain ⟨i064, hi064, _, hsz64, _⟩ := info_parts info51; have hroom64 : l0.length ≤ c0 := HC0.out; have hC64 : Kd.C k51 _ A0 l0.length l0 := HR0.out; have hcut64 := cut_to (P := Try.prog) 25 51 .i64 Try.underlying25 hi064 A0 l0.length c0 x5_2 (of_decide_eq_true (by first | (with_reducible assumption) | assumption)) q64 hroom64; have hr64 := Kd.C_take (m := (x5_2 : Int).toNat) hC64 (by omega); have hy64 : y158.length = (x5_2 : Int).toNat := (by rw [Ny158.out, List.length_take]; omega); rw [← Ny158.out] at hr64; rw [← hy64] at hcut64; have HR161 := Aside0.mk hr64; have HC161 := Aside0.mk (show y158.length ≤ c0 from by omega); clear hr64 hC64 hroom64 hi064 hsz64; have KY64 := Aside0.mk hy64; clear hy64; replace q64 := eq_true q64) | ((with_reducible refine gate_builtin (b := .append) (xs := #[.tmp 52, .tmp 55]) rfl ?_); at_builtin; refine Kd.R_append_rows k51 (w0 := w) w.heap.size rfl (.tmp 52) (.tmp 55) 25 51 (.agg #[(.int .i64 0), (.int .i64 0), (.int .i64 0), (.int .i64 0)]) 32 rfl Try.underlying25 info51 rfl (by decide) (by omega) v156 y155 y158 _ _ _ (fun k_ => k_ ≠ gb122) (fun _ => False) rfl rfl ?aO ?aR (fun _ _ h => h) (fun _ h => h.elim) ?aF ?aB ?aS ?aL ?_; (case aR => repeat (first | exact (Kd.C_below HR161.out HB.out) | (with_reducible refine Kd.C_alloc ?_ _) | (with_reducible refine Kd.C_drewN ?_ _) | (with_reducible refine Kd.C_drew ?_))); (case aB => exact (zb1 HB)); (case aF => exact (fun k_ hk => Kd.freshB (g := gb122) (o := .cells #[.int .i64 a1_0, .int .i64 a1_1, .int .i64 a1_2, .int .i64 a1_3] 51 (0, 0)) (zq1 BK122) k_ hk)); (case aO => exact (by (with_reducible repeat (first | apply Kd.R_alloc | apply Kd.R_drewN | apply Kd.R_drew)); exact Kd.R_mono HO157.out (fun _ hk => hk.2))); (case aS => exact (below_size (zb1 HB))); (case aL => have := LMc59.out; omega); intro v163 w65 ho hb hg hat; rw [← Ny162.out] at ho; have HO164 := Aside0.mk (ho); replace BK122 := Aside0.mk (blk_grown (g := gb122) (o := .cells #[.int .i64 a1_0, .int .i64 a1_1, .int .i64 a1_2, .int .i64 a1_3] 51 (0, 0)) (zq1 BK122) hg (Kd.R_away HO157.out (fun _ hk => hk.2))); replace HB := Aside0.mk (hb); clear HO157; clear ho hb hg hat; have hcz66_0 : w65.cell? ⟨gb122, 0, none⟩ = some (.int .i64 a1_0) := zc BK122 0; have hcz66_1 : w65.cell? ⟨gb122, 1, none⟩ = some (.int .i64 a1_1) := zc BK122 1; have hcz66_2 : w65.cell? ⟨gb122, 2, none⟩ = some (.int .i64 a1_2) := zc BK122 2; have hcz66_3 : w65.cell? ⟨gb122, 3, none⟩ = some (.int .i64 a1_3) := zc BK122 3; have hfz66_0 := blk_frozen BK122.out 0; have hfz66_1 := blk_frozen BK122.out 1; have hfz66_2 := blk_frozen BK122.out 2; have hfz66_3 := blk_frozen BK122.out 3) | ((with_reducible refine gate_builtin (b := .append) (xs := #[.tmp 64, .tmp 65]) rfl ?_); at_builtin; refine Kd.R_append_rows k51 (w0 := w) w.heap.size rfl (.tmp 64) (.tmp 65) 25 51 (.agg #[(.int .i64 0), (.int .i64 0), (.int .i64 0), (.int .i64 0)]) 32 rfl Try.underlying25 info51 rfl (by decide) (by omega) v163 y162 y125 _ _ _ (fun k_ => k_ ≠ gb122) (fun _ => False) rfl rfl ?aO ?aR (fun _ _ h => h) (fun _ h => h.elim) ?aF ?aB ?aS ?aL ?_; (case aR => repeat (first | exact (Kd.C_below HR128.out HB.out) | (with_reducible refine Kd.C_alloc ?_ _) | (with_reducible refine Kd.C_drewN ?_ _) | (with_reducible refine Kd.C_drew ?_))); (case aB => exact (zb1 HB)); (case aF => exact (fun k_ hk => Kd.freshB (g := gb122) (o := .cells #[.int .i64 a1_0, .int .i64 a1_1, .int .i64 a1_2, .int .i64 a1_3] 51 (0, 0)) (zq1 BK122) k_ hk)); (case aO => exact (zq3 HO164)); (case aS => exact (below_size (zb1 HB))); (case aL => have := LMc61.out; omega); intro v166 w67 ho hb hg hat; rw [← Ny165.out] at ho; have HO167 := Aside0.mk (ho); replace BK122 := Aside0.mk (blk_grown (g := gb122) (o := .cells #[.int .i64 a1_0, .int .i64 a1_1, .int .i64 a1_2, .int .i64 a1_3] 51 (0, 0)) (zq1 BK122) hg (Kd.R_away HO164.out (fun _ hk => hk))); replace HB := Aside0.mk (hb); clear HO164; clear ho hb hg hat))
             go_ret
             exact ⟨_, by first | rfl | (simp [errW_none, errW_some] <;> rfl) | (simp [*, errW_none, errW_some] <;> rfl), by (with_reducible repeat (first | apply Kd.R_alloc | apply Kd.R_drewN | apply Kd.R_drew)); exact Kd.R_mono HO167.out (fun _ hk => trivial), (zb1 HB)⟩
            ·
             rw [if_neg c61] at H
             exact absurd H (by simp)
           ·
            rw [if_neg c60] at H
            have c60b0 : (a1_0 == 0) = false := beq_eq_false_iff_ne.mpr c60
            have c60b1 : (a1_0 != 0) = true := bne_iff_ne.mpr c60
            by_cases c68 : y162.length < 4398046511104
            ·
             rw [if_pos c68] at H
             have LMc68 := Aside0.mk c68
             clear c68
             obtain ⟨y168, hy168⟩ : ∃ y_ : List (S51), y_ = (y162 ++ [(⟨a1_0, a1_1, a1_2, a1_3⟩ : S51)]) := ⟨_, rfl⟩
             replace H : (if y168.length + y125.length < 4398046511104 then (some (y168 ++ y125)) else (none)) = some r := by first | (rw [hy168]; with_reducible exact H) | (have H2_ := (Option.bind_some _ _).symm.trans H; rw [hy168]; with_reducible exact H2_) | (have H2_ := (Option.bind_some _ _).symm.trans H; with_reducible exact H2_) | with_reducible exact H | (rw [hy168]; exact H) | exact H
             have Ny168 := Aside0.mk hy168
             clear hy168
             by_cases c69 : y168.length + y125.length < 4398046511104
             ·
              rw [if_pos c69] at H
              have LMc69 := Aside0.mk c69
              clear c69
              obtain ⟨y171, hy171⟩ : ∃ y_ : List (S51), y_ = (y168 ++ y125) := ⟨_, rfl⟩
              replace H : (some y171) = some r := by first | (rw [hy171]; with_reducible exact H) | (have H2_ := (Option.bind_some _ _).symm.trans H; rw [hy171]; with_reducible exact H2_) | (have H2_ := (Option.bind_some _ _).symm.trans H; with_reducible exact H2_) | with_reducible exact H | (rw [hy171]; exact H) | exact H
              have Ny171 := Aside0.mk hy171
              clear hy171
              obtain rfl := Option.some.inj H
              go_wp2_with (first | ((with_reducible refine gate_dst (N := 52) rfl ?_); refine Kd.R_lit k51 _ 51 ?hg (N := 52) ?hd (xs := ([] : List (S51))) (inner := []) (ok := fun _ => True) (okp := fun _ => True) ?hr ?hp (fun _ hk => hk) trivial (Below.refl _ _) (Nat.le_refl _) (by simp) ?_; (case hd => rfl); (case hg => rfl); (case hr => first | (go_simp; done) | (go_simp; rfl)); (case hp => exact (Reps.none _ _)); intro v156 w70 ho71 hb hg_ hnew_; clear hg_ hnew_; (first | rw [← Ny155.out] at ho71 | (simp only [Int.reduceToNat] at ho71; rw [← Ny155.out] at ho71)); have HO157 := Aside0.mk (Kd.R_lower (Kd.R_newB ho71 (g := gb122) (o := .cells #[.int .i64 a1_0, .int .i64 a1_1, .int .i64 a1_2, .int .i64 a1_3] 51 (0, 0)) (zq1 BK122)) (below_size (zb1 HB))); replace BK122 := Aside0.mk (zbb BK122 hb); replace HB := Aside0.mk (below_step (zb1 HB) hb); clear hb ho71; have q72 : (x5_2 : Int) ≤ ((l0.length : Int) : Int) := of_decide_eq_true (by first | (with_reducible assumption) | assumption); obtain ⟨i072, hi072, _, hsz72, _⟩ := info_parts info51; have hroom72 : l0.length ≤ c0 := HC0.out; have hC72 : Kd.C k51 _ A0 l0.length l0 := HR0.out; have hcut72 := cut_to (P := Try.prog) 25 51 .i64 Try.underlying25 hi072 A0 l0.length c0 x5_2 (of_decide_eq_true (by first | (with_reducible assumption) | assumption)) q72 hroom72; have hr72 := Kd.C_take (m := (x5_2 : Int).toNat) hC72 (by omega); have hy72 : y158.length = (x5_2 : Int).toNat := (by rw [Ny158.out, List.length_take]; omega); rw [← Ny158.out] at hr72; rw [← hy72] at hcut72; have HR161 := Aside0.mk hr72; have HC161 := Aside0.mk (show y158.length ≤ c0 from by omega); clear hr72 hC72 hroom72 hi072 hsz72; have KY72 := Aside0.mk hy72; clear hy72; replace q72 := eq_true q72) | ((with_reducible refine gate_builtin (b := .append) (xs := #[.tmp 52, .tmp 55]) rfl ?_); at_builtin; refine Kd.R_append_rows k51 (w0 := w) w.heap.size rfl (.tmp 52) (.tmp 55) 25 51 (.agg #[(.int .i64 0), (.int .i64 0), (.int .i64 0), (.int .i64 0)]) 32 rfl Try.underlying25 info51 rfl (by decide) (by omega) v156 y155 y158 _ _ _ (fun k_ => k_ ≠ gb122) (fun _ => False) rfl rfl ?aO ?aR (fun _ _ h => h) (fun _ h => h.elim) ?aF ?aB ?aS ?aL ?_; (case aR => repeat (first | exact (Kd.C_below HR161.out HB.out) | (with_reducible refine Kd.C_alloc ?_ _) | (with_reducible refine Kd.C_drewN ?_ _) | (with_reducible refine Kd.C_drew ?_))); (case aB => exact (zb1 HB)); (case aF => exact (fun k_ hk => Kd.freshB (g := gb122) (o := .cells #[.int .i64 a1_0, .int .i64 a1_1, .int .i64 a1_2, .int .i64 a1_3] 51 (0, 0)) (zq1 BK122) k_ hk)); (case aO => exact (by (with_reducible repeat (first | apply Kd.R_alloc | apply Kd.R_drewN | apply Kd.R_drew)); exact Kd.R_mono HO157.out (fun _ hk => hk.2))); (case aS => exact (below_size (zb1 HB))); (case aL => have := LMc59.out; omega); intro v163 w73 ho hb hg hat; rw [← Ny162.out] at ho; have HO164 := Aside0.mk (ho); replace BK122 := Aside0.mk (blk_grown (g := gb122) (o := .cells #[.int .i64 a1_0, .int .i64 a1_1, .int .i64 a1_2, .int .i64 a1_3] 51 (0, 0)) (zq1 BK122) hg (Kd.R_away HO157.out (fun _ hk => hk.2))); replace HB := Aside0.mk (hb); clear HO157; clear ho hb hg hat; have hcz74_0 : w73.cell? ⟨gb122, 0, none⟩ = some (.int .i64 a1_0) := zc BK122 0; have hcz74_1 : w73.cell? ⟨gb122, 1, none⟩ = some (.int .i64 a1_1) := zc BK122 1; have hcz74_2 : w73.cell? ⟨gb122, 2, none⟩ = some (.int .i64 a1_2) := zc BK122 2; have hcz74_3 : w73.cell? ⟨gb122, 3, none⟩ = some (.int .i64 a1_3) := zc BK122 3; have hfz74_0 := blk_frozen BK122.out 0; have hfz74_1 := blk_frozen BK122.out 1; have hfz74_2 := blk_frozen BK122.out 2; have hfz74_3 := blk_frozen BK122.out 3) | ((with_reducible refine gate_builtin (b := .append) (xs := #[.tmp 60, .tmp 62]) rfl ?_); at_builtin; refine Kd.R_append k51 (w0 := w) w.heap.size rfl (.tmp 60) (.tmp 62) 25 51 (.agg #[(.int .i64 0), (.int .i64 0), (.int .i64 0), (.int .i64 0)]) 32 rfl Try.underlying25 info51 rfl (by decide) (by omega) v163 y162 (⟨a1_0, a1_1, a1_2, a1_3⟩ : S51) [.int .i64 a1_0, .int .i64 a1_1, .int .i64 a1_2, .int .i64 a1_3] (fun k_ => k_ ≠ gb122) (fun _ => False) rfl rfl ?aP (fun _ hk => hk.elim) ?aF ?aO ?aB ?aS ?aL ?_; (case aP => exact k51_mkM _ _ _ (⟨a1_0, a1_1, a1_2, a1_3⟩ : S51)); (case aB => exact (zb1 HB)); (case aF => exact (fun k_ hk => Kd.freshB (g := gb122) (o := .cells #[.int .i64 a1_0, .int .i64 a1_1, .int .i64 a1_2, .int .i64 a1_3] 51 (0, 0)) (zq1 BK122) k_ hk)); (case aO => exact (zq3 HO164)); (case aS => exact (below_size (zb1 HB))); (case aL => have := LMc68.out; omega); intro v169 w75 ho hb hg hat; rw [← Ny168.out] at ho; have HO170 := Aside0.mk (ho); replace BK122 := Aside0.mk (blk_grown (g := gb122) (o := .cells #[.int .i64 a1_0, .int .i64 a1_1, .int .i64 a1_2, .int .i64 a1_3] 51 (0, 0)) (zq1 BK122) hg (Kd.R_away HO164.out (fun _ hk => hk))); replace HB := Aside0.mk (hb); clear HO164; clear ho hb hg hat) | ((with_reducible refine gate_builtin (b := .append) (xs := #[.tmp 64, .tmp 65]) rfl ?_); at_builtin; refine Kd.R_append_rows k51 (w0 := w) w.heap.size rfl (.tmp 64) (.tmp 65) 25 51 (.agg #[(.int .i64 0), (.int .i64 0), (.int .i64 0), (.int .i64 0)]) 32 rfl Try.underlying25 info51 rfl (by decide) (by omega) v169 y168 y125 _ _ _ (fun k_ => k_ ≠ gb122) (fun _ => False) rfl rfl ?aO ?aR (fun _ _ h => h) (fun _ h => h.elim) ?aF ?aB ?aS ?aL ?_; (case aR => repeat (first | exact (Kd.C_below HR128.out HB.out) | (with_reducible refine Kd.C_alloc ?_ _) | (with_reducible refine Kd.C_drewN ?_ _) | (with_reducible refine Kd.C_drew ?_))); (case aB => exact (zb1 HB)); (case aF => exact (fun k_ hk => Kd.freshB (g := gb122) (o := .cells #[.int .i64 a1_0, .int .i64 a1_1, .int .i64 a1_2, .int .i64 a1_3] 51 (0, 0)) (zq1 BK122) k_ hk)); (case aO => exact (zq3 HO170)); (case aS => exact (below_size (zb1 HB))); (case aL => have := LMc69.out; omega); intro v172 w76 ho hb hg hat; rw [← Ny171.out] at ho; have HO173 := Aside0.mk (ho); replace BK122 := Aside0.mk (blk_grown (g := gb122) (o := .cells #[.int .i64 a1_0, .int .i64 a1_1, .int .i64 a1_2, .int .i64 a1_3] 51 (0, 0)) (zq1 BK122) hg (Kd.R_away HO170.out (fun _ hk => hk))); replace HB := Aside0.mk (hb); clear HO170; clear ho hb hg hat))
              go_ret
              exact ⟨_, by first | rfl | (simp [errW_none, errW_some] <;> rfl) | (simp [*, errW_none, errW_some] <;> rfl), by (with_reducible repeat (first | apply Kd.R_alloc | apply Kd.R_drewN | apply Kd.R_drew)); exact Kd.R_mono HO173.out (fun _ hk => trivial), (zb1 HB)⟩
             ·
              rw [if_neg c69] at H
              exact absurd H (by simp)
            ·
             rw [if_neg c68] at H
             exact absurd H (by simp)
          ·
           rw [if_neg c59] at H
           exact absurd H (by simp)
         ·
          rw [if_neg c58] at H
          exact absurd H (by simp)
        ·
         rw [if_neg c57] at H
         exact absurd H (by simp)
    ·
     rw [if_neg c15] at H
     exact absurd H (by simp)
   ·
    rw [if_neg c14] at H
    exact absurd H (by simp)
end Go.Proofs.Ythanmlojikidbaa.PD
