-- By wip/mk/drv.py
import Derived.Test.YtgaoniapddpaaaaQCornOfPDx0
import Derived.Test.YtgaoniapddpaaaaQCornOfPDx1
import Derived.Test.YtgaoniapddpaaaaQCornOfPDx22
import Derived.Test.YtgaoniapddpaaaaQCornOfPDx30
namespace Go.Proofs.Ytgaoniapddpaaaa.PD
open Go.RowKit Go.Proofs.YtgaoniapddpaaaaW.PrintWords Go.Proofs.YtgaoniapddpaaaaW.PrintLast Go.Proofs.YtgaoniapddpaaaaW.PrintMore
attribute [local go_sem] max2_int min2_int max_two min_two max_three min_three max_four min_four
set_option linter.unusedVariables false
set_option linter.unusedSimpArgs false
/-! ### impl_Box_side: function 66 -/
-- PROOF
set_option maxHeartbeats 8000000 in
set_option maxRecDepth 100000 in
theorem impl_Box_side.reads (k g : Nat) (K0 : Int) (adA adB : Addr) (nA cA nB cB : Nat) (a1 x y : Int) (t1 : Bool) (t2 t3 : Int) (u1 u2 : Int) (u3 : Bool) (q1 : Bool) (q2 q3 : Int) (v1 v2 : Int) (v3 : Bool) (w : World) (hG : w.heap[g]? = some (.cells #[.int .i64 K0, .slice (some adA) nA cA, .slice (some adB) nB cB] 27 (0, 0)))
  (h0 : 0 ≤ a1) (hnA : a1 < (nA : Int)) (hnB : a1 < (nB : Int)) (he1 : w.cell? (adA.add a1.toNat) = some (.int .i64 x)) (he2 : w.cell? (adB.add a1.toNat) = some (.int .i64 y))
  (hA1 : impl_wideOf.f x = some (t1, t2, t3)) (hF1 : impl_wide_fit.f k t1 t2 t3 K0 = some (u1, u2, u3)) (hA2 : impl_wideOf.f y = some (q1, q2, q3)) (hF2 : impl_wide_fit.f k q1 q2 q3 K0 = some (v1, v2, v3)) :
  Calls Try.prog 66 #[.pointer (some ⟨g, 0, none⟩), .int .i64 a1] w fun e w' => e = .returned (.tuple #[.agg #[.int .i64 u1, .int .i64 u2], .agg #[.int .i64 v1, .int .i64 v2]]) ∧ Below w.heap.size w w' := by
 have hu37 := Try.underlying37
 have hu27 := Try.underlying27
 have HB := Aside0.mk (Below.refl w.heap.size w)
 have BKG := Aside0.mk hG
 have hAx := Aside0.mk hA1
 have hFx := Aside0.mk hF1
 have hAy := Aside0.mk hA2
 have hFy := Aside0.mk hF2
 have hg1 : w.cell? ⟨g, 1, none⟩ = some (.slice (some adA) nA cA) := zc BKG 1
 have hg2 : w.cell? ⟨g, 2, none⟩ = some (.slice (some adB) nB cB) := zc BKG 2
 have c1b := decide_eq_true h0
 have c2b := decide_eq_true hnA
 have c3b := decide_eq_true hnB
 have p1 := eq_true h0
 have p2 := eq_true hnA
 have p3 := eq_true hnB
 clear hG hA1 hF1 hA2 hF2 h0 hnA hnB
 go_enter Try.func66, Try.ntmps66
 go_wp2_with (first | ((with_reducible refine gate_dst (N := 4) rfl ?_); refine zbe (N := 4) (cs := #[.int .i64 0, .int .i64 0]) (t := 37) ?_; intro gb4 hg w4 hbox hb; have BK4 := Aside0.mk hbox; have GW4 := Aside0.mk (zge (zb0 HB) hg); replace BKG := Aside0.mk (zbb BKG hb); replace HB := Aside0.mk (below_step (zb0 HB) hb); clear hb hbox hg) | ((with_reducible refine gate_dst (N := 5) rfl ?_); refine zbe (N := 5) (cs := #[.int .i64 0, .int .i64 0]) (t := 37) ?_; intro gb5 hg w5 hbox hb; have BK5 := Aside0.mk hbox; have GW5 := Aside0.mk (zge (zb0 HB) hg); replace BKG := Aside0.mk (zbb BKG hb); have NB45 := Aside0.mk (zlt BK4 hg); have NB54 := Aside0.mk (zgt BK4 hg); replace BK4 := Aside0.mk (zbb BK4 hb); replace HB := Aside0.mk (below_step (zb0 HB) hb); clear hb hbox hg))
 replace HB := Aside0.mk (below_drew1 HB.out)
 replace BKG := Aside0.mk (blk_drew BKG.out)
 replace BK4 := Aside0.mk (blk_drew BK4.out)
 replace BK5 := Aside0.mk (blk_drew BK5.out)
 refine start_ (n := 20) (S := fun w' => w'.cell? ⟨g, 1, none⟩ = some (.slice (some adA) nA cA) ∧ w'.cell? ⟨g, 2, none⟩ = some (.slice (some adB) nB cB) ∧ w'.cell? (adA.add a1.toNat) = some (.int .i64 x) ∧ w'.cell? (adB.add a1.toNat) = some (.int .i64 y)) (ds := []) #[false, false, false, false, false, false, false, false, false, false, false, false, false, false, false, false, false, false, false, false] (by kernel_rfl) rfl rfl ⟨(by exact ((zb1 HB).cell (World.block_lt_of_cell? w _ hg1)).trans hg1), (by exact ((zb1 HB).cell (World.block_lt_of_cell? w _ hg2)).trans hg2), (by exact ((zb1 HB).cell (World.block_lt_of_cell? w _ he1)).trans he1), (by exact ((zb1 HB).cell (World.block_lt_of_cell? w _ he2)).trans he2)⟩ (fun hHeld => ?_)
 generalize w5.drew = w6 at HB BKG BK4 BK5 hHeld ⊢
 refine zp (i := 0) (N := some 6) #[true, false, false, false, false, false, false, false, false, false, false, false, false, false, false, false, false, false, false, false] (by kernel_rfl) ?_
 refine zp (i := 1) (N := some 7) #[true, true, false, false, false, false, false, false, false, false, false, false, false, false, false, false, false, false, false, false] (by kernel_rfl) ?_
 refine zp (i := 2) (N := some 8) #[true, true, true, false, false, false, false, false, false, false, false, false, false, false, false, false, false, false, false, false] (by kernel_rfl) ?_
 refine zp (i := 3) (N := some 9) #[true, true, true, true, false, false, false, false, false, false, false, false, false, false, false, false, false, false, false, false] (by kernel_rfl) ?_
 refine take_ (i := 4) (N := some 10) (v := ?_) (a' := ?_) #[true, true, true, true, true, false, false, false, false, false, false, false, false, false, false, false, false, false, false, false] rfl rfl (by kernel_rfl) (fun _ _ _ h => h) (Or.inl ⟨by rfl, ?_⟩) hHeld ?_ ?_
 rotate_left
 ·
  rintro w' ⟨s0, s1, s2, s3⟩
  go_simp
  with_reducible rfl
 rotate_left
 ·
  simp only [Act.put, List.setIfInBounds_toArray, List.set_cons_zero, List.set_cons_succ, i64_w, i32_w]; rfl
 refine zp (i := 5) (N := some 11) #[true, true, true, true, true, true, false, false, false, false, false, false, false, false, false, false, false, false, false, false] (by kernel_rfl) ?_
 refine zp (i := 6) (N := some 12) #[true, true, true, true, true, true, true, false, false, false, false, false, false, false, false, false, false, false, false, false] (by kernel_rfl) ?_
 refine take_ (i := 7) (N := some 13) (v := ?_) (a' := ?_) #[true, true, true, true, true, true, true, true, false, false, false, false, false, false, false, false, false, false, false, false] rfl rfl (by kernel_rfl) (fun _ _ _ h => h) (Or.inl ⟨by rfl, ?_⟩) hHeld ?_ ?_
 rotate_left
 ·
  rintro w' ⟨s0, s1, s2, s3⟩
  go_simp
  with_reducible rfl
 rotate_left
 ·
  simp only [Act.put, List.setIfInBounds_toArray, List.set_cons_zero, List.set_cons_succ, i64_w, i32_w]; rfl
 refine zp (i := 9) (N := some 15) #[true, true, true, true, true, true, true, true, false, true, false, false, false, false, false, false, false, false, false, false] (by kernel_rfl) ?_
 refine zp (i := 10) (N := some 16) #[true, true, true, true, true, true, true, true, false, true, true, false, false, false, false, false, false, false, false, false] (by kernel_rfl) ?_
 refine zp (i := 11) (N := some 17) #[true, true, true, true, true, true, true, true, false, true, true, true, false, false, false, false, false, false, false, false] (by kernel_rfl) ?_
 refine zp (i := 12) (N := some 18) #[true, true, true, true, true, true, true, true, false, true, true, true, true, false, false, false, false, false, false, false] (by kernel_rfl) ?_
 refine take_ (i := 13) (N := some 19) (v := ?_) (a' := ?_) #[true, true, true, true, true, true, true, true, false, true, true, true, true, true, false, false, false, false, false, false] rfl rfl (by kernel_rfl) (fun _ _ _ h => h) (Or.inl ⟨by rfl, ?_⟩) hHeld ?_ ?_
 rotate_left
 ·
  rintro w' ⟨s0, s1, s2, s3⟩
  go_simp
  with_reducible rfl
 rotate_left
 ·
  simp only [Act.put, List.setIfInBounds_toArray, List.set_cons_zero, List.set_cons_succ, i64_w, i32_w]; rfl
 refine zp (i := 14) (N := some 20) #[true, true, true, true, true, true, true, true, false, true, true, true, true, true, true, false, false, false, false, false] (by kernel_rfl) ?_
 refine zp (i := 15) (N := some 21) #[true, true, true, true, true, true, true, true, false, true, true, true, true, true, true, true, false, false, false, false] (by kernel_rfl) ?_
 refine take_ (i := 16) (N := some 22) (v := ?_) (a' := ?_) #[true, true, true, true, true, true, true, true, false, true, true, true, true, true, true, true, true, false, false, false] rfl rfl (by kernel_rfl) (fun _ _ _ h => h) (Or.inl ⟨by rfl, ?_⟩) hHeld ?_ ?_
 rotate_left
 ·
  rintro w' ⟨s0, s1, s2, s3⟩
  go_simp
  with_reducible rfl
 rotate_left
 ·
  simp only [Act.put, List.setIfInBounds_toArray, List.set_cons_zero, List.set_cons_succ, i64_w, i32_w]; rfl
 refine one_ (i := 8) (N := (some 14)) #[true, true, true, true, true, true, true, true, true, true, true, true, true, true, true, true, true, false, false, false] rfl rfl (by kernel_rfl) (by decide) (fun K hK => ?_)
 refine goes_ Try.func93 (by kernel_rfl) rfl #[.pointer (some ⟨g, 0, none⟩), .int .i64 x] (by rfl) rfl rfl zq6 ?_
 with_reducible refine (impl_Box_dyadic.reads k g K0 _ _ x t1 t2 t3 u1 u2 u3 _ BKG.out hAx.out hFx.out).mono ?_
 rintro e wn0 ⟨rfl, hb⟩
 refine ⟨_, rfl, ?_⟩
 replace BKG := Aside0.mk (zbb BKG hb); replace BK4 := Aside0.mk (zbb BK4 hb); replace BK5 := Aside0.mk (zbb BK5 hb); replace HB := Aside0.mk (below_step (zb1 HB) hb)
 clear hb
 refine hK.out _ _ ⟨(by exact ((zb1 HB).cell (World.block_lt_of_cell? w _ hg1)).trans hg1), (by exact ((zb1 HB).cell (World.block_lt_of_cell? w _ hg2)).trans hg2), (by exact ((zb1 HB).cell (World.block_lt_of_cell? w _ he1)).trans he1), (by exact ((zb1 HB).cell (World.block_lt_of_cell? w _ he2)).trans he2)⟩ (fun hHeld => ?_)
 clear hK K
 refine norm_ (a' := ?_) ?_ ?_
 rotate_left
 ·
  show Act.put _ (some 14) _ = _
  simp only [Act.put, List.setIfInBounds_toArray, List.set_cons_zero, List.set_cons_succ, i64_w, i32_w]; rfl
 refine one_ (i := 17) (N := (some 23)) #[true, true, true, true, true, true, true, true, true, true, true, true, true, true, true, true, true, true, false, false] rfl rfl (by kernel_rfl) (by decide) (fun K hK => ?_)
 refine goes_ Try.func93 (by kernel_rfl) rfl #[.pointer (some ⟨g, 0, none⟩), .int .i64 y] (by rfl) rfl rfl zq6 ?_
 with_reducible refine (impl_Box_dyadic.reads k g K0 _ _ y q1 q2 q3 v1 v2 v3 _ BKG.out hAy.out hFy.out).mono ?_
 rintro e wn1 ⟨rfl, hb⟩
 refine ⟨_, rfl, ?_⟩
 replace BKG := Aside0.mk (zbb BKG hb); replace BK4 := Aside0.mk (zbb BK4 hb); replace BK5 := Aside0.mk (zbb BK5 hb); replace HB := Aside0.mk (below_step (zb1 HB) hb)
 clear hb
 refine hK.out _ _ ⟨(by exact ((zb1 HB).cell (World.block_lt_of_cell? w _ hg1)).trans hg1), (by exact ((zb1 HB).cell (World.block_lt_of_cell? w _ hg2)).trans hg2), (by exact ((zb1 HB).cell (World.block_lt_of_cell? w _ he1)).trans he1), (by exact ((zb1 HB).cell (World.block_lt_of_cell? w _ he2)).trans he2)⟩ (fun hHeld => ?_)
 clear hK K
 refine norm_ (a' := ?_) ?_ ?_
 rotate_left
 ·
  show Act.put _ (some 23) _ = _
  simp only [Act.put, List.setIfInBounds_toArray, List.set_cons_zero, List.set_cons_succ, i64_w, i32_w]; rfl
 refine one_ (i := 18) (N := none) #[true, true, true, true, true, true, true, true, true, true, true, true, true, true, true, true, true, true, true, false] rfl rfl (by kernel_rfl) (by decide) (fun K hK => ?_)
 have hcz5_0 : wn1.cell? ⟨gb5, 0, none⟩ = some (.int .i64 0) := zc BK5 0; have hfz5_0 := blk_frozen BK5.out 0; have hcz5_1 : wn1.cell? ⟨gb5, 1, none⟩ = some (.int .i64 0) := zc BK5 1; have hfz5_1 := blk_frozen BK5.out 1; have hcz4_0 : wn1.cell? ⟨gb4, 0, none⟩ = some (.int .i64 0) := zc BK4 0; have hfz4_0 := blk_frozen BK4.out 0; have hcz4_1 : wn1.cell? ⟨gb4, 1, none⟩ = some (.int .i64 0) := zc BK4 1; have hfz4_1 := blk_frozen BK4.out 1; have hnb := NB54.out; have hnc := NB45.out
 rw [if_pos (by rfl)]
 go_wp2
 refine hK.out _ _ ⟨(by exact ((zb1 HB).cell (World.block_lt_of_cell? w _ hg1)).trans hg1), (by exact ((zb1 HB).cell (World.block_lt_of_cell? w _ hg2)).trans hg2), (by exact ((zb1 HB).cell (World.block_lt_of_cell? w _ he1)).trans he1), (by exact ((zb1 HB).cell (World.block_lt_of_cell? w _ he2)).trans he2)⟩ (fun hHeld => ?_)
 clear hK K
 refine norm_ (a' := ?_) ?_ ?_
 rotate_left
 ·
  first | rfl | (simp only [Act.put, List.setIfInBounds_toArray, List.set_cons_zero, List.set_cons_succ, i64_w, i32_w]; rfl)
 refine one_ (i := 19) (N := none) #[true, true, true, true, true, true, true, true, true, true, true, true, true, true, true, true, true, true, true, true] rfl rfl (by kernel_rfl) (by decide) (fun K hK => ?_)
 rw [if_pos (by rfl)]
 go_wp2
 refine hK.out _ _ ⟨(by exact ((zb1 HB).cell (World.block_lt_of_cell? w _ hg1)).trans hg1), (by exact ((zb1 HB).cell (World.block_lt_of_cell? w _ hg2)).trans hg2), (by exact ((zb1 HB).cell (World.block_lt_of_cell? w _ he1)).trans he1), (by exact ((zb1 HB).cell (World.block_lt_of_cell? w _ he2)).trans he2)⟩ (fun hHeld => ?_)
 clear hK K
 refine norm_ (a' := ?_) ?_ ?_
 rotate_left
 ·
  first | rfl | (simp only [Act.put, List.setIfInBounds_toArray, List.set_cons_zero, List.set_cons_succ, i64_w, i32_w]; rfl)
 refine done_ (by kernel_rfl) ?_
 go_wp2
 refine bodyPost_ret (results_list (rs := [.cell 4 37, .cell 5 37]) rfl (by simp) (.cell gb4 37 #[.int .i64 u1, .int .i64 u2] (0, 0) _ rfl (by (with_reducible repeat (first | refine blk_drewN ?_ _ | refine blk_drew ?_ | refine blk_alloc ?_ _)); refine blk_far ?_ NB45.out _; (with_reducible repeat (first | refine blk_drewN ?_ _ | refine blk_drew ?_ | refine blk_alloc ?_ _)); refine blk_far ?_ NB45.out _; (with_reducible repeat (first | refine blk_drewN ?_ _ | refine blk_drew ?_ | refine blk_alloc ?_ _)); refine blk_put (cs := #[.int .i64 u1, .int .i64 0]) ?_ 1 _ rfl; (with_reducible repeat (first | refine blk_drewN ?_ _ | refine blk_drew ?_ | refine blk_alloc ?_ _)); refine blk_put (cs := #[.int .i64 0, .int .i64 0]) ?_ 0 _ rfl; (with_reducible repeat (first | refine blk_drewN ?_ _ | refine blk_drew ?_ | refine blk_alloc ?_ _)); exact BK4.out) Try.underlying37 rfl (by kernel_rfl) (.cell gb5 37 #[.int .i64 v1, .int .i64 v2] (0, 0) _ rfl (by (with_reducible repeat (first | refine blk_drewN ?_ _ | refine blk_drew ?_ | refine blk_alloc ?_ _)); refine blk_put (cs := #[.int .i64 v1, .int .i64 0]) ?_ 1 _ rfl; (with_reducible repeat (first | refine blk_drewN ?_ _ | refine blk_drew ?_ | refine blk_alloc ?_ _)); refine blk_put (cs := #[.int .i64 0, .int .i64 0]) ?_ 0 _ rfl; (with_reducible repeat (first | refine blk_drewN ?_ _ | refine blk_drew ?_ | refine blk_alloc ?_ _)); refine blk_far ?_ NB54.out _; (with_reducible repeat (first | refine blk_drewN ?_ _ | refine blk_drew ?_ | refine blk_alloc ?_ _)); refine blk_far ?_ NB54.out _; (with_reducible repeat (first | refine blk_drewN ?_ _ | refine blk_drew ?_ | refine blk_alloc ?_ _)); exact BK5.out) Try.underlying37 rfl (by kernel_rfl) .nil))) rfl ?_
 exact ⟨by first | rfl | (simp; done) | (simp [*]; done), (zb1 HB)⟩
theorem impl_Box_side.calls (k : Nat) (g : Nat) (s0_0 : Int) (s0_1 : List Int) (s0_2 : List Int) (a1 : Int) (r1 : Int) (r2 : Int) (r3 : Int) (r4 : Int) (r5 : Int) (w0 w : World) (hI : IsS27 w0 w g s0_0 s0_1 s0_2) (hB : Below w0.heap.size w0 w) (h : impl_Box_side.f k s0_0 s0_1 s0_2 a1 = some (r1, r2, r3, r4, r5)) :
  Calls Try.prog 66 #[.pointer (some ⟨g, 0, none⟩), .int .i64 a1] w fun e w' => e = .returned (.tuple #[.agg #[.int .i64 r1, .int .i64 r2], .agg #[.int .i64 r3, .int .i64 r4]]) ∧ IsS27 w0 w' g r5 s0_1 s0_2 ∧ Below w0.heap.size w0 w' ∧ KeepBut w w' g none := by
 unfold impl_Box_side.f at h
 by_cases h0 : 0 ≤ a1
 ·
  rw [if_pos h0] at h
  by_cases h1 : a1 < (s0_1.length : Int)
  ·
   rw [if_pos h1] at h
   by_cases h2 : a1 < (s0_2.length : Int)
   ·
    rw [if_pos h2] at h
    obtain ⟨⟨p1, p2, p3⟩, hD, h⟩ := Option.bind_eq_some_iff.mp h
    obtain ⟨⟨o1, o2, o3⟩, hE, h⟩ := Option.bind_eq_some_iff.mp h
    simp only [Option.some.injEq, Prod.mk.injEq] at h
    obtain ⟨rfl, rfl, rfl, rfl, rfl⟩ := h
    unfold impl_Box_dyadic.f at hD hE
    obtain ⟨⟨t1, t2, t3⟩, hA1, hD⟩ := Option.bind_eq_some_iff.mp hD
    obtain ⟨⟨u1, u2, u3⟩, hF1, hD⟩ := Option.bind_eq_some_iff.mp hD
    simp only [Option.some.injEq, Prod.mk.injEq] at hD
    obtain ⟨rfl, rfl, _⟩ := hD
    obtain ⟨⟨q1, q2, q3⟩, hA2, hE⟩ := Option.bind_eq_some_iff.mp hE
    obtain ⟨⟨v1, v2, v3⟩, hF2, hE⟩ := Option.bind_eq_some_iff.mp hE
    simp only [Option.some.injEq, Prod.mk.injEq] at hE
    obtain ⟨rfl, rfl, _⟩ := hE
    have hI' := hI
    obtain ⟨A1, c1, A2, c2, hb, hg, hr1, hr2⟩ := hI
    obtain ⟨adA, eA, hx⟩ := Kd.at_int hr1 a1 h0 h1
    obtain ⟨adB, eB, hy⟩ := Kd.at_int hr2 a1 h0 h2
    subst eA eB
    refine (impl_Box_side.reads k g s0_0 adA adB _ _ _ _ a1 _ _ t1 t2 t3 u1 u2 u3 q1 q2 q3 v1 v2 v3 w hb h0 h1 h2 (pw_cell_below hB hx) (pw_cell_below hB hy) hA1 hF1 hA2 hF2).mono ?_
    rintro e w' ⟨rfl, hbw⟩
    exact ⟨rfl, hI'.below hbw, below_step hB hbw, KeepBut.of_below hbw g none⟩
   ·
    rw [if_neg h2] at h; cases h
  ·
   rw [if_neg h1] at h; cases h
 ·
  rw [if_neg h0] at h; cases h
end Go.Proofs.Ytgaoniapddpaaaa.PD
