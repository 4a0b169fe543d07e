-- By wip/mk/drv.py
import Derived.Test.YtgaoniapddpaaaaQVoluOfPDx0
import Derived.Test.YtgaoniapddpaaaaQVoluOfPDx1
import Derived.Test.YtgaoniapddpaaaaQVoluOfPDx2
import Derived.Test.YtgaoniapddpaaaaQVoluOfPDx20
import Derived.Test.YtgaoniapddpaaaaQVoluOfPDx30
namespace Go.Proofs.Ytgaoniapddpaaaa.PD
open Go.RowKit Go.Proofs.YtgaoniapddpaaaaW.PrintWords Go.Proofs.YtgaoniapddpaaaaW.PrintLast Go.Proofs.YtgaoniapddpaaaaW.PrintMore
attribute [local go_sem] max2_int min2_int max_two min_two max_three min_three max_four min_four
set_option linter.unusedVariables false
set_option linter.unusedSimpArgs false
/-! ### impl_Box_volume: function 68 -/
-- PROOF
set_option maxHeartbeats 8000000 in
set_option maxRecDepth 100000 in
theorem impl_Box_volume.len (g : Nat) (K0 : Int) (A1 A2 : Option Addr) (c1 c2 : Nat) (L M : List Int) (a1 r r2 : Int) (w : World) (hG : w.heap[g]? = some (.cells #[.int .i64 K0, .slice A1 L.length c1, .slice A2 M.length c2] 27 (0, 0))) (hr1 : Kd.C (Kd.int .i64) w A1 L.length L) (hr2 : Kd.C (Kd.int .i64) w A2 M.length M) (h : impl_Box_length.f K0 L M a1 = some (r, r2)) :
  Calls Try.prog 59 #[.pointer (some ⟨g, 0, none⟩), .int .i64 a1] w fun e w' => e = .returned (.int .i64 r) ∧ Below w.heap.size w w' := by
 have HB := Aside0.mk (Below.refl w.heap.size w)
 have BKG := Aside0.mk hG
 unfold impl_Box_length.f at h
 by_cases h0 : 0 ≤ a1
 ·
  rw [if_pos h0] at h
  by_cases h2 : a1 < (M.length : Int)
  ·
   rw [if_pos h2] at h
   by_cases h1 : a1 < (L.length : Int)
   ·
    rw [if_pos h1] at h
    simp only [Option.some.injEq, Prod.mk.injEq] at h
    obtain ⟨rfl, rfl⟩ := h
    obtain ⟨adA, eA, hx⟩ := Kd.at_int hr1 a1 h0 h1
    obtain ⟨adB, eB, hy⟩ := Kd.at_int hr2 a1 h0 h2
    subst eA eB
    have hg1 : w.cell? ⟨g, 1, none⟩ = some (.slice (some adA) L.length c1) := zc BKG 1
    have hg2 : w.cell? ⟨g, 2, none⟩ = some (.slice (some adB) M.length c2) := zc BKG 2
    have c1b := decide_eq_true h0
    have c2b := decide_eq_true h1
    have c3b := decide_eq_true h2
    have p1 := eq_true h0
    have p2 := eq_true h1
    have p3 := eq_true h2
    clear hG h0 h1 h2 hr1 hr2
    go_enter Try.func59, Try.ntmps59
    go_wp2
    repeat (go_quiet (fail); try go_wp2)
    go_ret
    exact ⟨by first | rfl | (simp; done) | (simp [*]; done), (zb0 HB)⟩
   ·
    rw [if_neg h1] at h; cases h
  ·
   rw [if_neg h2] at h; cases h
 ·
  rw [if_neg h0] at h; cases h
set_option maxHeartbeats 8000000 in
set_option maxRecDepth 100000 in
theorem impl_Box_volume.reads (k g : Nat) (K0 : Int) (A1 A2 : Option Addr) (c1 c2 : Nat) (L M : List Int) (r1 r2 : Int) (r3 : Bool) (w : World) (hG : w.heap[g]? = some (.cells #[.int .i64 K0, .slice A1 L.length c1, .slice A2 M.length c2] 27 (0, 0))) (hr1 : Kd.C (Kd.int .i64) w A1 L.length L) (hr2 : Kd.C (Kd.int .i64) w A2 M.length M) (h : impl_Box_volume.l0 k K0 L M 1 0 = some (r1, r2, r3)) :
  Calls Try.prog 68 #[.pointer (some ⟨g, 0, none⟩)] w fun e w' => e = .returned (.tuple #[.agg #[.int .i64 r1, .int .i64 r2], .bool r3]) ∧ Below w.heap.size w w' := by
 have hu37 := Try.underlying37
 have hu27 := Try.underlying27
 have HB := Aside0.mk (Below.refl w.heap.size w)
 have BKG := Aside0.mk hG
 have HR1 := Aside0.mk hr1
 have HR2 := Aside0.mk hr2
 have H' := Aside0.mk h
 have hg0 : w.cell? ⟨g, 0, none⟩ = some (.int .i64 K0) := zc BKG 0
 have hg1 : w.cell? ⟨g, 1, none⟩ = some (.slice A1 L.length c1) := zc BKG 1
 clear hG hr1 hr2 h
 go_enter Try.func68, Try.ntmps68
 go_wp2_with ((with_reducible refine gate_dst (N := 2) rfl ?_); refine zbe (N := 2) (cs := #[.int .i64 0, .int .i64 0]) (t := 37) ?_; intro gb2 hg w2 hbox hb; have BK2 := Aside0.mk hbox; have GW2 := Aside0.mk (zge (zb0 HB) hg); replace BKG := Aside0.mk (zbb BKG hb); replace HB := Aside0.mk (below_step (zb0 HB) hb); have hc1 : w2.cell? ⟨g, 1, none⟩ = some (.slice A1 L.length c1) := zc BKG 1; clear hb hbox hg)
 go_loopg [4, 11] k (fun kq v4 v11 w' => ∃ (n : Int) (i : Int), v4 = .int .i64 n ∧ v11 = .int .i64 i ∧ Aside0 (impl_Box_volume.l0 kq K0 L M n i = some (r1, r2, r3)) ∧ Aside0 (kq ≤ k) ∧ Aside0 (w'.heap[g]? = some (.cells #[.int .i64 K0, .slice A1 L.length c1, .slice A2 M.length c2] 27 (0, 0))) ∧ Aside0 (w'.heap[gb2]? = some (.cells #[.int .i64 0, .int .i64 0] 37 (0, 0))) ∧ Aside0 (Below w.heap.size w w'))
 case atStart => exact ⟨1, 0, (by first | rfl | (simp; done) | (simp [*]; done)), (by first | rfl | (simp; done) | (simp [*]; done)), H', ⟨Nat.le_refl _⟩, ⟨zq1 BKG⟩, ⟨zq1 BK2⟩, ⟨(zb0 HB)⟩⟩
 case round =>
  clear H' hc1 BKG BK2 HB
  obtain ⟨n, i, rfl, rfl, HA, HK1, BKG, BK2, HB⟩ := hrel
  cases gk with
  | zero => exact absurd HA.out (by simp [impl_Box_volume.l0])
  | succ k1 =>
   have H := HA.out
   clear HA
   simp only [impl_Box_volume.l0] at H
   by_cases c : i < (L.length : Int)
   ·
    rw [if_pos c] at H
    have cb := decide_eq_true c
    obtain ⟨⟨t, t'⟩, hL, H⟩ := Option.bind_eq_some_iff.mp H
    replace H : impl_Box_volume.l0 k1 K0 L M (wrap64 (n * t)) (wrap64 (i + 1)) = some (r1, r2, r3) := H
    have AL := Aside0.mk hL
    have H' := Aside0.mk H
    clear H hL c
    go_wp2_with ((with_reducible refine gate_callee (f := 59) rfl ?_); refine goesL_ (some 17) rfl rfl Try.func59 (by kernel_rfl) rfl #[.pointer (some ⟨g, 0, none⟩), .int .i64 i] rfl zq6 ?_; (with_reducible refine (impl_Box_volume.len g K0 A1 A2 c1 c2 L M i t t' _ (zq1 BKG) (Kd.C_below HR1.out (zb0 HB)) (Kd.C_below HR2.out (zb0 HB)) AL.out).mono ?_); rintro e w' ⟨rfl, hb⟩; refine ⟨_, rfl, ?_⟩; replace BKG := Aside0.mk (zbb BKG hb); replace BK2 := Aside0.mk (zbb BK2 hb); replace HB := Aside0.mk (below_step (zb1 HB) hb); clear hb)
    go_roundg k1
    case measure => have := HK1.out; omega
    case rel => exact ⟨(wrap64 (n * t)), (wrap64 (i + 1)), (by first | rfl | (simp; done) | (simp [*]; done)), (by first | rfl | (simp; done) | (simp [*]; done)), H', ⟨by have := HK1.out; omega⟩, ⟨zq1 BKG⟩, ⟨zq1 BK2⟩, ⟨(zb0 HB)⟩⟩
   ·
    rw [if_neg c] at H
    have cb := decide_eq_false c
    obtain ⟨⟨t1, t2, t3⟩, hA, H⟩ := Option.bind_eq_some_iff.mp H
    replace H : impl_wide_fit.f k1 t1 t2 t3 (wrap64 (K0 * (L.length : Int))) = some (r1, r2, r3) := H
    have A3 := Aside0.mk hA
    have A4 := Aside0.mk H
    clear H hA c
    go_wp2
    replace HB := Aside0.mk (below_drew1 HB.out)
    replace BKG := Aside0.mk (blk_drew BKG.out)
    replace BK2 := Aside0.mk (blk_drew BK2.out)
    refine start_ (n := 17) (S := fun w' => w'.cell? ⟨g, 0, none⟩ = some (.int .i64 K0) ∧ w'.cell? ⟨g, 1, none⟩ = some (.slice A1 L.length c1)) (ds := []) #[false, false, false, false, false, false, false, false, false, false, false, false, false, false, false, false, false] (by kernel_rfl) rfl rfl ⟨(by exact ((zb1 HB).cell (World.block_lt_of_cell? w _ hg0)).trans hg0), (by exact ((zb1 HB).cell (World.block_lt_of_cell? w _ hg1)).trans hg1)⟩ (fun hHeld => ?_)
    generalize wr.drew = w6 at HB BKG BK2 hHeld ⊢
    refine zp (i := 0) (N := some 20) #[true, false, false, false, false, false, false, false, false, false, false, false, false, false, false, false, false] (by kernel_rfl) ?_
    refine zp (i := 2) (N := some 22) #[true, false, true, false, false, false, false, false, false, false, false, false, false, false, false, false, false] (by kernel_rfl) ?_
    refine zp (i := 3) (N := some 23) #[true, false, true, true, false, false, false, false, false, false, false, false, false, false, false, false, false] (by kernel_rfl) ?_
    refine zp (i := 4) (N := some 24) #[true, false, true, true, true, false, false, false, false, false, false, false, false, false, false, false, false] (by kernel_rfl) ?_
    refine take_ (i := 5) (N := some 25) (v := ?_) (a' := ?_) #[true, false, true, true, true, true, false, false, false, false, false, false, false, false, false, false, false] rfl rfl (by kernel_rfl) (fun _ _ _ h => h) (Or.inl ⟨by rfl, ?_⟩) hHeld ?_ ?_
    rotate_left
    ·
     rintro w' ⟨s0, s1⟩
     go_simp
     with_reducible rfl
    rotate_left
    ·
     simp only [Act.put, List.setIfInBounds_toArray, List.set_cons_zero, List.set_cons_succ, i64_w, i32_w]; rfl
    refine zp (i := 6) (N := some 26) #[true, false, true, true, true, true, true, false, false, false, false, false, false, false, false, false, false] (by kernel_rfl) ?_
    refine zp (i := 7) (N := some 27) #[true, false, true, true, true, true, true, true, false, false, false, false, false, false, false, false, false] (by kernel_rfl) ?_
    refine zp (i := 8) (N := some 28) #[true, false, true, true, true, true, true, true, true, false, false, false, false, false, false, false, false] (by kernel_rfl) ?_
    refine take_ (i := 9) (N := some 29) (v := ?_) (a' := ?_) #[true, false, true, true, true, true, true, true, true, true, false, false, false, false, false, false, false] rfl rfl (by kernel_rfl) (fun _ _ _ h => h) (Or.inl ⟨by rfl, ?_⟩) hHeld ?_ ?_
    rotate_left
    ·
     rintro w' ⟨s0, s1⟩
     go_simp
     with_reducible rfl
    rotate_left
    ·
     simp only [Act.put, List.setIfInBounds_toArray, List.set_cons_zero, List.set_cons_succ, i64_w, i32_w]; rfl
    refine zp (i := 10) (N := some 30) #[true, false, true, true, true, true, true, true, true, true, true, false, false, false, false, false, false] (by kernel_rfl) ?_
    refine zp (i := 11) (N := some 31) #[true, false, true, true, true, true, true, true, true, true, true, true, false, false, false, false, false] (by kernel_rfl) ?_
    refine one_ (i := 1) (N := (some 21)) #[true, true, true, true, true, true, true, true, true, true, true, true, false, false, false, false, false] rfl rfl (by kernel_rfl) (by decide) (fun K hK => ?_)
    refine goes_ Try.func94 (by kernel_rfl) rfl #[.int .i64 n] (by rfl) rfl rfl zq6 ?_
    with_reducible refine (impl_wideOf.calls n t1 t2 t3 _ A3.out).mono ?_
    rintro e wn0 ⟨rfl, hb⟩
    refine ⟨_, rfl, ?_⟩
    replace BKG := Aside0.mk (zbb BKG hb); replace BK2 := Aside0.mk (zbb BK2 hb); replace HB := Aside0.mk (below_step (zb1 HB) hb)
    clear hb
    refine hK.out _ _ ⟨(by exact ((zb1 HB).cell (World.block_lt_of_cell? w _ hg0)).trans hg0), (by exact ((zb1 HB).cell (World.block_lt_of_cell? w _ hg1)).trans hg1)⟩ (fun hHeld => ?_)
    clear hK K
    refine norm_ (a' := ?_) ?_ ?_
    rotate_left
    ·
     show Act.put _ (some 21) _ = _
     simp only [Act.put, List.setIfInBounds_toArray, List.set_cons_zero, List.set_cons_succ, i64_w, i32_w]; rfl
    refine one_ (i := 12) (N := (some 32)) #[true, true, true, true, true, true, true, true, true, true, true, true, true, false, false, false, false] rfl rfl (by kernel_rfl) (by decide) (fun K hK => ?_)
    refine goes_ Try.func95 (by kernel_rfl) rfl #[.agg #[.bool t1, .int .u64 t2, .int .u64 t3], .int .i64 (wrap64 (K0 * (L.length : Int)))] (by rfl) rfl rfl zq6 ?_
    with_reducible refine (impl_wide_fit.calls k1 t1 t2 t3 (wrap64 (K0 * (L.length : Int))) r1 r2 r3 _ A4.out).mono ?_
    rintro e wn1 ⟨rfl, hb⟩
    refine ⟨_, rfl, ?_⟩
    replace BKG := Aside0.mk (zbb BKG hb); replace BK2 := Aside0.mk (zbb BK2 hb); replace HB := Aside0.mk (below_step (zb1 HB) hb)
    clear hb
    refine hK.out _ _ ⟨(by exact ((zb1 HB).cell (World.block_lt_of_cell? w _ hg0)).trans hg0), (by exact ((zb1 HB).cell (World.block_lt_of_cell? w _ hg1)).trans hg1)⟩ (fun hHeld => ?_)
    clear hK K
    refine norm_ (a' := ?_) ?_ ?_
    rotate_left
    ·
     show Act.put _ (some 32) _ = _
     simp only [Act.put, List.setIfInBounds_toArray, List.set_cons_zero, List.set_cons_succ, i64_w, i32_w]; rfl
    refine zp (i := 13) (N := some 33) #[true, true, true, true, true, true, true, true, true, true, true, true, true, true, false, false, false] (by kernel_rfl) ?_
    refine zp (i := 14) (N := some 34) #[true, true, true, true, true, true, true, true, true, true, true, true, true, true, true, false, false] (by kernel_rfl) ?_
    refine one_ (i := 15) (N := none) #[true, true, true, true, true, true, true, true, true, true, true, true, true, true, true, true, false] rfl rfl (by kernel_rfl) (by decide) (fun K hK => ?_)
    have hcz2_0 : wn1.cell? ⟨gb2, 0, none⟩ = some (.int .i64 0) := zc BK2 0; have hfz2_0 := blk_frozen BK2.out 0; have hcz2_1 : wn1.cell? ⟨gb2, 1, none⟩ = some (.int .i64 0) := zc BK2 1; have hfz2_1 := blk_frozen BK2.out 1
    rw [if_pos (by rfl)]
    go_wp2
    refine hK.out _ _ ⟨(by exact ((zb1 HB).cell (World.block_lt_of_cell? w _ hg0)).trans hg0), (by exact ((zb1 HB).cell (World.block_lt_of_cell? w _ hg1)).trans hg1)⟩ (fun hHeld => ?_)
    clear hK K
    refine norm_ (a' := ?_) ?_ ?_
    rotate_left
    ·
     first | rfl | (simp only [Act.put, List.setIfInBounds_toArray, List.set_cons_zero, List.set_cons_succ, i64_w, i32_w]; rfl)
    refine zp (i := 16) (N := some 3) #[true, true, true, true, true, true, true, true, true, true, true, true, true, true, true, true, true] (by kernel_rfl) ?_
    refine done_ (by kernel_rfl) ?_
    go_wp2
    refine bodyPost_ret (results_list (rs := [.cell 2 37, .tmp 3]) rfl (by simp) (.cell gb2 37 #[.int .i64 r1, .int .i64 r2] (0, 0) _ rfl (by (with_reducible repeat (first | refine blk_drewN ?_ _ | refine blk_drew ?_ | refine blk_alloc ?_ _)); refine blk_put (cs := #[.int .i64 r1, .int .i64 0]) ?_ 1 _ rfl; (with_reducible repeat (first | refine blk_drewN ?_ _ | refine blk_drew ?_ | refine blk_alloc ?_ _)); refine blk_put (cs := #[.int .i64 0, .int .i64 0]) ?_ 0 _ rfl; (with_reducible repeat (first | refine blk_drewN ?_ _ | refine blk_drew ?_ | refine blk_alloc ?_ _)); exact BK2.out) Try.underlying37 rfl (by kernel_rfl) (.tmp .nil))) rfl ?_
    exact ⟨by first | rfl | (simp; done) | (simp [*]; done), (zb1 HB)⟩
theorem impl_Box_volume.calls (k : Nat) (g : Nat) (s0_0 : Int) (s0_1 : List Int) (s0_2 : List Int) (r1 : Int) (r2 : Int) (r3 : Bool) (r4 : Int) (w0 w : World) (hI : IsS27 w0 w g s0_0 s0_1 s0_2) (hB : Below w0.heap.size w0 w) (h : impl_Box_volume.f k s0_0 s0_1 s0_2 = some (r1, r2, r3, r4)) :
  Calls Try.prog 68 #[.pointer (some ⟨g, 0, none⟩)] w fun e w' => e = .returned (.tuple #[.agg #[.int .i64 r1, .int .i64 r2], .bool r3]) ∧ IsS27 w0 w' g r4 s0_1 s0_2 ∧ Below w0.heap.size w0 w' ∧ KeepBut w w' g none := by
 unfold impl_Box_volume.f at h
 obtain ⟨⟨u1, u2, u3⟩, hF, h⟩ := Option.bind_eq_some_iff.mp h
 simp only [Option.some.injEq, Prod.mk.injEq] at h
 obtain ⟨rfl, rfl, rfl, rfl⟩ := h
 have hI' := hI
 obtain ⟨A1, c1, A2, c2, hb, hg, hr1, hr2⟩ := hI
 refine (impl_Box_volume.reads k g s0_0 A1 A2 c1 c2 s0_1 s0_2 u1 u2 u3 w hb (Kd.C_below hr1 hB) (Kd.C_below hr2 hB) hF).mono ?_
 rintro e w' ⟨rfl, hbw⟩
 exact ⟨rfl, hI'.below hbw, below_step hB hbw, KeepBut.of_below hbw g none⟩
end Go.Proofs.Ytgaoniapddpaaaa.PD
