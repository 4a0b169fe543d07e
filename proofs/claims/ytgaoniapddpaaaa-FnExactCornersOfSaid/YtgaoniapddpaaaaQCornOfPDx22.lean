-- By wip/mk/drv.py
import Derived.Test.YtgaoniapddpaaaaQCornOfPDx0
import Derived.Test.YtgaoniapddpaaaaQCornOfPDx1
import Derived.Test.YtgaoniapddpaaaaQCornOfPDx3
import Derived.Test.YtgaoniapddpaaaaQCornOfPDx21
import Derived.Test.YtgaoniapddpaaaaQCornOfPDx30
namespace Go.Proofs.Ytgaoniapddpaaaa.PD
open Go.RowKit Go.Proofs.YtgaoniapddpaaaaW.PrintWords Go.Proofs.YtgaoniapddpaaaaW.PrintLast Go.Proofs.YtgaoniapddpaaaaW.PrintMore
attribute [local go_sem] max2_int min2_int max_two min_two max_three min_three max_four min_four
set_option linter.unusedVariables false
set_option linter.unusedSimpArgs false
/-! ### impl_Box_dyadic: function 93 -/
-- PROOF
set_option maxHeartbeats 8000000 in
set_option maxRecDepth 100000 in
theorem impl_Box_dyadic.reads (k g : Nat) (K0 : Int) (sA sB : Value) (a1 : Int) (t1 : Bool) (t2 t3 : Int) (r1 r2 : Int) (r3 : Bool) (w : World) (hG : w.heap[g]? = some (.cells #[.int .i64 K0, sA, sB] 27 (0, 0))) (hA : impl_wideOf.f a1 = some (t1, t2, t3)) (hF : impl_wide_fit.f k t1 t2 t3 K0 = some (r1, r2, r3)) :
  Calls Try.prog 93 #[.pointer (some ⟨g, 0, none⟩), .int .i64 a1] w fun e w' => e = .returned (.agg #[.int .i64 r1, .int .i64 r2]) ∧ Below w.heap.size w w' := by
 have hu37 := Try.underlying37
 have hu27 := Try.underlying27
 have HB := Aside0.mk (Below.refl w.heap.size w)
 have BKG := Aside0.mk hG
 have A3 := Aside0.mk hA
 have A4 := Aside0.mk hF
 clear hG hA hF
 go_enter Try.func93, Try.ntmps93
 go_wp2_with ((with_reducible refine gate_dst (N := 4) rfl ?_); refine zbe (N := 4) (cs := #[.int .i64 0, .int .i64 0]) (t := 37) ?_; intro gb4 hg w4 hbox hb; have BK4 := Aside0.mk hbox; have GW4 := Aside0.mk (zge (zb0 HB) hg); replace BKG := Aside0.mk (zbb BKG hb); replace HB := Aside0.mk (below_step (zb0 HB) hb); clear hb hbox hg)
 replace HB := Aside0.mk (below_drew1 HB.out)
 replace BKG := Aside0.mk (blk_drew BKG.out)
 replace BK4 := Aside0.mk (blk_drew BK4.out)
 refine start_ (n := 13) (S := fun w' => w'.cell? ⟨g, 0, none⟩ = some (.int .i64 K0)) (ds := []) #[false, false, false, false, false, false, false, false, false, false, false, false, false] (by kernel_rfl) rfl rfl (zc BKG 0) (fun hHeld => ?_)
 generalize w4.drew = w5 at HB BKG BK4 hHeld ⊢
 refine zp (i := 0) (N := some 8) #[true, false, false, false, false, false, false, false, false, false, false, false, false] (by kernel_rfl) ?_
 refine zp (i := 2) (N := some 10) #[true, false, true, false, false, false, false, false, false, false, false, false, false] (by kernel_rfl) ?_
 refine zp (i := 3) (N := some 11) #[true, false, true, true, false, false, false, false, false, false, false, false, false] (by kernel_rfl) ?_
 refine zp (i := 4) (N := some 12) #[true, false, true, true, true, false, false, false, false, false, false, false, false] (by kernel_rfl) ?_
 refine take_ (i := 5) (N := some 13) (v := ?_) (a' := ?_) #[true, false, true, true, true, true, false, false, false, false, false, false, false] rfl rfl (by kernel_rfl) (fun _ _ _ h => h) (Or.inl ⟨by rfl, ?_⟩) hHeld ?_ ?_
 rotate_left
 ·
  intro w' s0
  go_simp
  with_reducible rfl
 rotate_left
 ·
  simp only [Act.put, List.setIfInBounds_toArray, List.set_cons_zero, List.set_cons_succ, i64_w, i32_w]; rfl
 refine two_ (i := 1) (j := 10) (Ni := (some 9)) (Nj := (some 5)) #[true, true, true, true, true, true, false, false, false, false, false, false, false] #[true, false, true, true, true, true, false, false, false, false, true, false, false] rfl rfl rfl rfl (by kernel_rfl) (by decide) (by decide) (fun K hK => ?_) (fun K hK => ?_)
 ·
  refine goes_ Try.func94 (by kernel_rfl) rfl #[.int .i64 a1] (by rfl) rfl rfl zq6 ?_
  with_reducible refine (impl_wideOf.calls a1 t1 t2 t3 _ A3.out).mono ?_
  rintro e wn0 ⟨rfl, hb⟩
  refine ⟨_, rfl, ?_⟩
  replace BKG := Aside0.mk (zbb BKG hb); replace BK4 := Aside0.mk (zbb BK4 hb); replace HB := Aside0.mk (below_step (zb1 HB) hb)
  clear hb
  refine hK.out _ _ (zc BKG 0) (fun hHeld => ?_)
  clear hK K
  refine norm_ (a' := ?_) ?_ ?_
  rotate_left
  ·
   show Act.put _ (some 9) _ = _
   simp only [Act.put, List.setIfInBounds_toArray, List.set_cons_zero, List.set_cons_succ, i64_w, i32_w]; rfl
  refine two_ (i := 6) (j := 10) (Ni := (some 14)) (Nj := (some 5)) #[true, true, true, true, true, true, true, false, false, false, false, false, false] #[true, true, true, true, true, true, false, false, false, false, true, false, false] rfl rfl rfl rfl (by kernel_rfl) (by decide) (by decide) (fun K hK => ?_) (fun K hK => ?_)
  ·
   refine goes_ Try.func95 (by kernel_rfl) rfl #[.agg #[.bool t1, .int .u64 t2, .int .u64 t3], .int .i64 K0] (by rfl) rfl rfl zq6 ?_
   with_reducible refine (impl_wide_fit.calls k t1 t2 t3 K0 r1 r2 r3 _ A4.out).mono ?_
   rintro e wn1 ⟨rfl, hb⟩
   refine ⟨_, rfl, ?_⟩
   replace BKG := Aside0.mk (zbb BKG hb); replace BK4 := Aside0.mk (zbb BK4 hb); replace HB := Aside0.mk (below_step (zb1 HB) hb)
   clear hb
   refine hK.out _ _ (zc BKG 0) (fun hHeld => ?_)
   clear hK K
   refine norm_ (a' := ?_) ?_ ?_
   rotate_left
   ·
    show Act.put _ (some 14) _ = _
    simp only [Act.put, List.setIfInBounds_toArray, List.set_cons_zero, List.set_cons_succ, i64_w, i32_w]; rfl
   refine zp (i := 7) (N := some 7) #[true, true, true, true, true, true, true, true, false, false, false, false, false] (by kernel_rfl) ?_
   refine zp (i := 8) (N := some 15) #[true, true, true, true, true, true, true, true, true, false, false, false, false] (by kernel_rfl) ?_
   refine zp (i := 9) (N := some 16) #[true, true, true, true, true, true, true, true, true, true, false, false, false] (by kernel_rfl) ?_
   refine one_ (i := 10) (N := (some 5)) #[true, true, true, true, true, true, true, true, true, true, true, false, false] rfl rfl (by kernel_rfl) (by decide) (fun K hK => ?_)
   refine box_step ?hg (N := 5) ?hd (cs := #[.int .i64 0, .int .i64 0]) (t := 37) ?hr ?_; (case hd => rfl); (case hg => rfl); (case hr => first | (go_simp; done) | (go_simp; rfl))
   intro gb5 hg wn2 hbox hb
   have BK5 := Aside0.mk hbox; have GW5 := Aside0.mk (zge (zb1 HB) hg); have NB45 := Aside0.mk (zlt BK4 hg); have NB54 := Aside0.mk (zgt BK4 hg); have NBG5 := Aside0.mk (zlt BKG hg)
   clear hbox hg
   replace BKG := Aside0.mk (zbb BKG hb); replace BK4 := Aside0.mk (zbb BK4 hb); replace HB := Aside0.mk (below_step (zb1 HB) hb)
   clear hb
   refine hK.out _ _ (zc BKG 0) (fun hHeld => ?_)
   clear hK K
   refine norm_ (a' := ?_) ?_ ?_
   rotate_left
   ·
    show Act.put _ (some 5) _ = _
    simp only [Act.put, List.setIfInBounds_toArray, List.set_cons_zero, List.set_cons_succ, i64_w, i32_w]; rfl
   refine one_ (i := 11) (N := none) #[true, true, true, true, true, true, true, true, true, true, true, true, false] rfl rfl (by kernel_rfl) (by decide) (fun K hK => ?_)
   have hcz5_0 : wn2.cell? ⟨gb5, 0, none⟩ = some (.int .i64 0) := zc BK5 0; have hfz5_0 := blk_frozen BK5.out 0; have hcz5_1 : wn2.cell? ⟨gb5, 1, none⟩ = some (.int .i64 0) := zc BK5 1; have hfz5_1 := blk_frozen BK5.out 1; have hcz4_0 : wn2.cell? ⟨gb4, 0, none⟩ = some (.int .i64 0) := zc BK4 0; have hfz4_0 := blk_frozen BK4.out 0; have hcz4_1 : wn2.cell? ⟨gb4, 1, none⟩ = some (.int .i64 0) := zc BK4 1; have hfz4_1 := blk_frozen BK4.out 1; have hnb := NB54.out; have hnc := NB45.out
   rw [if_pos (by rfl)]
   go_wp2
   refine hK.out _ _ (by exact zc (Aside0.mk (blk_far (blk_far BKG.out NBG5.out _) NBG5.out _)) 0) (fun hHeld => ?_)
   clear hK K
   refine norm_ (a' := ?_) ?_ ?_
   rotate_left
   ·
    first | rfl | (simp only [Act.put, List.setIfInBounds_toArray, List.set_cons_zero, List.set_cons_succ, i64_w, i32_w]; rfl)
   refine zp (i := 12) (N := some 6) #[true, true, true, true, true, true, true, true, true, true, true, true, true] (by kernel_rfl) ?_
   refine done_ (by kernel_rfl) ?_
   go_wp2
   refine bodyPost_ret (results_cell_row rfl _ _ gb4 37 #[.int .i64 r1, .int .i64 r2] (0, 0) _ rfl (by (with_reducible repeat (first | refine blk_drewN ?_ _ | refine blk_drew ?_ | refine blk_alloc ?_ _)); refine blk_put (cs := #[.int .i64 r1, .int .i64 0]) ?_ 1 _ rfl; (with_reducible repeat (first | refine blk_drewN ?_ _ | refine blk_drew ?_ | refine blk_alloc ?_ _)); refine blk_put (cs := #[.int .i64 0, .int .i64 0]) ?_ 0 _ rfl; (with_reducible repeat (first | refine blk_drewN ?_ _ | refine blk_drew ?_ | refine blk_alloc ?_ _)); refine blk_far ?_ NB45.out _; (with_reducible repeat (first | refine blk_drewN ?_ _ | refine blk_drew ?_ | refine blk_alloc ?_ _)); refine blk_far ?_ NB45.out _; (with_reducible repeat (first | refine blk_drewN ?_ _ | refine blk_drew ?_ | refine blk_alloc ?_ _)); exact BK4.out) Try.underlying37 rfl (by kernel_rfl)) rfl ?_
   exact ⟨by first | rfl | (simp; done) | (simp [*]; done), (zb1 HB)⟩
  ·
   refine box_step ?hg (N := 5) ?hd (cs := #[.int .i64 0, .int .i64 0]) (t := 37) ?hr ?_; (case hd => rfl); (case hg => rfl); (case hr => first | (go_simp; done) | (go_simp; rfl))
   intro gb5 hg wn1 hbox hb
   have BK5 := Aside0.mk hbox; have GW5 := Aside0.mk (zge (zb1 HB) hg); have NB45 := Aside0.mk (zlt BK4 hg); have NB54 := Aside0.mk (zgt BK4 hg); have NBG5 := Aside0.mk (zlt BKG hg)
   clear hbox hg
   replace BKG := Aside0.mk (zbb BKG hb); replace BK4 := Aside0.mk (zbb BK4 hb); replace HB := Aside0.mk (below_step (zb1 HB) hb)
   clear hb
   refine hK.out _ _ (zc BKG 0) (fun hHeld => ?_)
   clear hK K
   refine norm_ (a' := ?_) ?_ ?_
   rotate_left
   ·
    show Act.put _ (some 5) _ = _
    simp only [Act.put, List.setIfInBounds_toArray, List.set_cons_zero, List.set_cons_succ, i64_w, i32_w]; rfl
   refine one_ (i := 6) (N := (some 14)) #[true, true, true, true, true, true, true, false, false, false, true, false, false] rfl rfl (by kernel_rfl) (by decide) (fun K hK => ?_)
   refine goes_ Try.func95 (by kernel_rfl) rfl #[.agg #[.bool t1, .int .u64 t2, .int .u64 t3], .int .i64 K0] (by rfl) rfl rfl zq6 ?_
   with_reducible refine (impl_wide_fit.calls k t1 t2 t3 K0 r1 r2 r3 _ A4.out).mono ?_
   rintro e wn2 ⟨rfl, hb⟩
   refine ⟨_, rfl, ?_⟩
   replace BKG := Aside0.mk (zbb BKG hb); replace BK4 := Aside0.mk (zbb BK4 hb); replace BK5 := Aside0.mk (zbb BK5 hb); replace HB := Aside0.mk (below_step (zb1 HB) hb)
   clear hb
   refine hK.out _ _ (zc BKG 0) (fun hHeld => ?_)
   clear hK K
   refine norm_ (a' := ?_) ?_ ?_
   rotate_left
   ·
    show Act.put _ (some 14) _ = _
    simp only [Act.put, List.setIfInBounds_toArray, List.set_cons_zero, List.set_cons_succ, i64_w, i32_w]; rfl
   refine zp (i := 7) (N := some 7) #[true, true, true, true, true, true, true, true, false, false, true, false, false] (by kernel_rfl) ?_
   refine zp (i := 8) (N := some 15) #[true, true, true, true, true, true, true, true, true, false, true, false, false] (by kernel_rfl) ?_
   refine zp (i := 9) (N := some 16) #[true, true, true, true, true, true, true, true, true, true, true, false, false] (by kernel_rfl) ?_
   refine one_ (i := 11) (N := none) #[true, true, true, true, true, true, true, true, true, true, true, true, false] rfl rfl (by kernel_rfl) (by decide) (fun K hK => ?_)
   have hcz5_0 : wn2.cell? ⟨gb5, 0, none⟩ = some (.int .i64 0) := zc BK5 0; have hfz5_0 := blk_frozen BK5.out 0; have hcz5_1 : wn2.cell? ⟨gb5, 1, none⟩ = some (.int .i64 0) := zc BK5 1; have hfz5_1 := blk_frozen BK5.out 1; have hcz4_0 : wn2.cell? ⟨gb4, 0, none⟩ = some (.int .i64 0) := zc BK4 0; have hfz4_0 := blk_frozen BK4.out 0; have hcz4_1 : wn2.cell? ⟨gb4, 1, none⟩ = some (.int .i64 0) := zc BK4 1; have hfz4_1 := blk_frozen BK4.out 1; have hnb := NB54.out; have hnc := NB45.out
   rw [if_pos (by rfl)]
   go_wp2
   refine hK.out _ _ (by exact zc (Aside0.mk (blk_far (blk_far BKG.out NBG5.out _) NBG5.out _)) 0) (fun hHeld => ?_)
   clear hK K
   refine norm_ (a' := ?_) ?_ ?_
   rotate_left
   ·
    first | rfl | (simp only [Act.put, List.setIfInBounds_toArray, List.set_cons_zero, List.set_cons_succ, i64_w, i32_w]; rfl)
   refine zp (i := 12) (N := some 6) #[true, true, true, true, true, true, true, true, true, true, true, true, true] (by kernel_rfl) ?_
   refine done_ (by kernel_rfl) ?_
   go_wp2
   refine bodyPost_ret (results_cell_row rfl _ _ gb4 37 #[.int .i64 r1, .int .i64 r2] (0, 0) _ rfl (by (with_reducible repeat (first | refine blk_drewN ?_ _ | refine blk_drew ?_ | refine blk_alloc ?_ _)); refine blk_put (cs := #[.int .i64 r1, .int .i64 0]) ?_ 1 _ rfl; (with_reducible repeat (first | refine blk_drewN ?_ _ | refine blk_drew ?_ | refine blk_alloc ?_ _)); refine blk_put (cs := #[.int .i64 0, .int .i64 0]) ?_ 0 _ rfl; (with_reducible repeat (first | refine blk_drewN ?_ _ | refine blk_drew ?_ | refine blk_alloc ?_ _)); refine blk_far ?_ NB45.out _; (with_reducible repeat (first | refine blk_drewN ?_ _ | refine blk_drew ?_ | refine blk_alloc ?_ _)); refine blk_far ?_ NB45.out _; (with_reducible repeat (first | refine blk_drewN ?_ _ | refine blk_drew ?_ | refine blk_alloc ?_ _)); exact BK4.out) Try.underlying37 rfl (by kernel_rfl)) rfl ?_
   exact ⟨by first | rfl | (simp; done) | (simp [*]; done), (zb1 HB)⟩
 ·
  refine box_step ?hg (N := 5) ?hd (cs := #[.int .i64 0, .int .i64 0]) (t := 37) ?hr ?_; (case hd => rfl); (case hg => rfl); (case hr => first | (go_simp; done) | (go_simp; rfl))
  intro gb5 hg wn0 hbox hb
  have BK5 := Aside0.mk hbox; have GW5 := Aside0.mk (zge (zb1 HB) hg); have NB45 := Aside0.mk (zlt BK4 hg); have NB54 := Aside0.mk (zgt BK4 hg); have NBG5 := Aside0.mk (zlt BKG hg)
  clear hbox hg
  replace BKG := Aside0.mk (zbb BKG hb); replace BK4 := Aside0.mk (zbb BK4 hb); replace HB := Aside0.mk (below_step (zb1 HB) hb)
  clear hb
  refine hK.out _ _ (zc BKG 0) (fun hHeld => ?_)
  clear hK K
  refine norm_ (a' := ?_) ?_ ?_
  rotate_left
  ·
   show Act.put _ (some 5) _ = _
   simp only [Act.put, List.setIfInBounds_toArray, List.set_cons_zero, List.set_cons_succ, i64_w, i32_w]; rfl
  refine one_ (i := 1) (N := (some 9)) #[true, true, true, true, true, true, false, false, false, false, true, false, false] rfl rfl (by kernel_rfl) (by decide) (fun K hK => ?_)
  refine goes_ Try.func94 (by kernel_rfl) rfl #[.int .i64 a1] (by rfl) rfl rfl zq6 ?_
  with_reducible refine (impl_wideOf.calls a1 t1 t2 t3 _ A3.out).mono ?_
  rintro e wn1 ⟨rfl, hb⟩
  refine ⟨_, rfl, ?_⟩
  replace BKG := Aside0.mk (zbb BKG hb); replace BK4 := Aside0.mk (zbb BK4 hb); replace BK5 := Aside0.mk (zbb BK5 hb); replace HB := Aside0.mk (below_step (zb1 HB) hb)
  clear hb
  refine hK.out _ _ (zc BKG 0) (fun hHeld => ?_)
  clear hK K
  refine norm_ (a' := ?_) ?_ ?_
  rotate_left
  ·
   show Act.put _ (some 9) _ = _
   simp only [Act.put, List.setIfInBounds_toArray, List.set_cons_zero, List.set_cons_succ, i64_w, i32_w]; rfl
  refine one_ (i := 6) (N := (some 14)) #[true, true, true, true, true, true, true, false, false, false, true, false, false] rfl rfl (by kernel_rfl) (by decide) (fun K hK => ?_)
  refine goes_ Try.func95 (by kernel_rfl) rfl #[.agg #[.bool t1, .int .u64 t2, .int .u64 t3], .int .i64 K0] (by rfl) rfl rfl zq6 ?_
  with_reducible refine (impl_wide_fit.calls k t1 t2 t3 K0 r1 r2 r3 _ A4.out).mono ?_
  rintro e wn2 ⟨rfl, hb⟩
  refine ⟨_, rfl, ?_⟩
  replace BKG := Aside0.mk (zbb BKG hb); replace BK4 := Aside0.mk (zbb BK4 hb); replace BK5 := Aside0.mk (zbb BK5 hb); replace HB := Aside0.mk (below_step (zb1 HB) hb)
  clear hb
  refine hK.out _ _ (zc BKG 0) (fun hHeld => ?_)
  clear hK K
  refine norm_ (a' := ?_) ?_ ?_
  rotate_left
  ·
   show Act.put _ (some 14) _ = _
   simp only [Act.put, List.setIfInBounds_toArray, List.set_cons_zero, List.set_cons_succ, i64_w, i32_w]; rfl
  refine zp (i := 7) (N := some 7) #[true, true, true, true, true, true, true, true, false, false, true, false, false] (by kernel_rfl) ?_
  refine zp (i := 8) (N := some 15) #[true, true, true, true, true, true, true, true, true, false, true, false, false] (by kernel_rfl) ?_
  refine zp (i := 9) (N := some 16) #[true, true, true, true, true, true, true, true, true, true, true, false, false] (by kernel_rfl) ?_
  refine one_ (i := 11) (N := none) #[true, true, true, true, true, true, true, true, true, true, true, true, false] rfl rfl (by kernel_rfl) (by decide) (fun K hK => ?_)
  have hcz5_0 : wn2.cell? ⟨gb5, 0, none⟩ = some (.int .i64 0) := zc BK5 0; have hfz5_0 := blk_frozen BK5.out 0; have hcz5_1 : wn2.cell? ⟨gb5, 1, none⟩ = some (.int .i64 0) := zc BK5 1; have hfz5_1 := blk_frozen BK5.out 1; have hcz4_0 : wn2.cell? ⟨gb4, 0, none⟩ = some (.int .i64 0) := zc BK4 0; have hfz4_0 := blk_frozen BK4.out 0; have hcz4_1 : wn2.cell? ⟨gb4, 1, none⟩ = some (.int .i64 0) := zc BK4 1; have hfz4_1 := blk_frozen BK4.out 1; have hnb := NB54.out; have hnc := NB45.out
  rw [if_pos (by rfl)]
  go_wp2
  refine hK.out _ _ (by exact zc (Aside0.mk (blk_far (blk_far BKG.out NBG5.out _) NBG5.out _)) 0) (fun hHeld => ?_)
  clear hK K
  refine norm_ (a' := ?_) ?_ ?_
  rotate_left
  ·
   first | rfl | (simp only [Act.put, List.setIfInBounds_toArray, List.set_cons_zero, List.set_cons_succ, i64_w, i32_w]; rfl)
  refine zp (i := 12) (N := some 6) #[true, true, true, true, true, true, true, true, true, true, true, true, true] (by kernel_rfl) ?_
  refine done_ (by kernel_rfl) ?_
  go_wp2
  refine bodyPost_ret (results_cell_row rfl _ _ gb4 37 #[.int .i64 r1, .int .i64 r2] (0, 0) _ rfl (by (with_reducible repeat (first | refine blk_drewN ?_ _ | refine blk_drew ?_ | refine blk_alloc ?_ _)); refine blk_put (cs := #[.int .i64 r1, .int .i64 0]) ?_ 1 _ rfl; (with_reducible repeat (first | refine blk_drewN ?_ _ | refine blk_drew ?_ | refine blk_alloc ?_ _)); refine blk_put (cs := #[.int .i64 0, .int .i64 0]) ?_ 0 _ rfl; (with_reducible repeat (first | refine blk_drewN ?_ _ | refine blk_drew ?_ | refine blk_alloc ?_ _)); refine blk_far ?_ NB45.out _; (with_reducible repeat (first | refine blk_drewN ?_ _ | refine blk_drew ?_ | refine blk_alloc ?_ _)); refine blk_far ?_ NB45.out _; (with_reducible repeat (first | refine blk_drewN ?_ _ | refine blk_drew ?_ | refine blk_alloc ?_ _)); exact BK4.out) Try.underlying37 rfl (by kernel_rfl)) rfl ?_
  exact ⟨by first | rfl | (simp; done) | (simp [*]; done), (zb1 HB)⟩
end Go.Proofs.Ytgaoniapddpaaaa.PD
