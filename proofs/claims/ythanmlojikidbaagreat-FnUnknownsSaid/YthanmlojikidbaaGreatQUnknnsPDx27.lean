-- By wip/mk/drv.py
import Derived.Test.YthanmlojikidbaaGreatQUnknnsPDx0
import Derived.Test.YthanmlojikidbaaGreatQUnknnsStw5
import Derived.Test.YthanmlojikidbaaGreatQUnknnsStw2
namespace Go.Proofs.YthanmlojikidbaaGreat.PD
open Go.RowKit Go.Proofs.YthanmlojikidbaaGreatW.PrintWords Go.Proofs.YthanmlojikidbaaGreatW.PrintLast Go.Proofs.YthanmlojikidbaaGreatW.PrintMore
attribute [local go_sem] max2_int min2_int max_two min_two max_three min_three max_four min_four
set_option linter.unusedVariables false
set_option linter.unusedSimpArgs false
/-! ### impl_collect: function 37 -/
-- PROOF
open Go.Sort Go.Shelf
theorem impl_collect.box_eventD {P : Program} {ops : Array Oper} {rest : List Oper} {o : Oper} {a : Act} {Q : Exit → Act → World → Prop} {W : World} (hgd : o.guard = none) {N : Tmp} (_hd : o.dst = some N) {cs : Array Value} {t : TypeId}
    (hrun : (execOp a.eval o).run P W = .ok (.value (.pointer (some ⟨W.heap.size, 0, none⟩))) (W.alloc (.cells cs t (0, 0))))
    (h : ∀ g, g = W.heap.size → ∀ w1, w1 = W.alloc (.cells cs t (0, 0)) → w1.heap[g]? = some (.cells cs t (0, 0)) → Below W.heap.size W w1 → wpList P ops Q rest (a.put o.dst (.pointer (some ⟨g, 0, none⟩))) w1) : wpList P ops Q (o :: rest) a W :=
  Kd.event_run hgd hrun (h _ rfl _ rfl (blk_new W _) (below_alloc (Below.refl _ _) _))
theorem impl_collect.lit_stepD {α : Type} {P : Program} {ops : Array Oper} {o : Oper} {a : Act} {Kc : Act → World → Prop} {Q : Exit → Act → World → Prop} (d : Kd α) {w0 W : World} (base e : Nat) (hw : Region.wanted o (yielded ops a.tmps) = true) {N : Tmp} (_hd : o.dst = some N) {xs : List α} {inner : List Value} {ok okp : Nat → Prop}
    (hrun : (execOp a.eval o).run P W = .ok (.value (.slice (some ⟨W.heap.size, 0, none⟩) xs.length xs.length)) (W.alloc (.cells inner.toArray e)))
    (hrep : Reps (d.M W base okp) d.sz xs inner) (hok : ∀ k, okp k → ok k) (hfresh : ok W.heap.size) (HB : Below base w0 W) (hbase : base ≤ W.heap.size) (hm : xs.length ≤ 9223372036854775807)
    (h : ∀ v1 w1, w1.drawn = W.drawn → d.R e w1 base ok v1 xs → Below base w0 w1 → W.grownBy w1 none → (∃ b, v1.ownBlock = some b ∧ W.heap.size ≤ b) → Kc (a.put o.dst v1) w1) : if Region.wanted o (yielded ops a.tmps) = true then Oper.wp P o a W Kc Q else Kc (a.put o.dst undef) W := by
  refine event_step hw hrun (h _ _ rfl ⟨fun k hk => ?_, inner, ?_, ?_⟩ (HB.alloc hbase _) (World.grownBy_alloc W _ none) ⟨W.heap.size, by simp [Value.ownBlock], Nat.le_refl _⟩)
  · have : W.heap.size = k := by simpa [Value.ownBlock] using hk
    subst this
    exact hfresh
  · have h2 := World.ownsRow_lit (base := base) (e := e) (size := d.sz) W inner.toArray xs.length hbase (by simpa [maxLen] using hm) (by simpa using hrep.1)
    simpa using h2
  · refine hrep.imp_ (fun p c hp => d.M_mono (fun k hk => ⟨hok k hk.1, fun he => ?_⟩) (Kd.M_below (d.M_bound hp) (below_alloc (Below.refl _ _) _)))
    have h3 : k = W.heap.size := by simpa [Value.ownBlock] using he
    have := hk.2.2.1
    omega
theorem impl_collect.le_drewN {w W : World} {n : Nat} (h : w.drawn ≤ W.drawn) : w.drawn ≤ (W.drewN n).drawn := Nat.le_trans h (Nat.le_add_right _ _)
theorem impl_collect.le_drew {w W : World} (h : w.drawn ≤ W.drawn) : w.drawn ≤ W.drew.drawn := Nat.le_trans h (Nat.le_succ _)
theorem impl_collect.grows {w w' : World} (h : Below w.heap.size w w') (hd : w.drawn ≤ w'.drawn) : ∃ q os, w' = Go.Sort.grow (w.drewN q) os := by
  refine ⟨w'.drawn - w.drawn, w'.heap.extract w.heap.size w'.heap.size, ?_⟩
  obtain ⟨h1, h2, h3, h4, h5⟩ := h
  have e : w'.heap = w.heap ++ w'.heap.extract w.heap.size w'.heap.size := by
    apply Array.ext_getElem?
    intro i
    by_cases c : i < w.heap.size
    · rw [Array.getElem?_append_left c]; exact h5 i c
    · rw [Array.getElem?_append_right (by omega), Array.getElem?_extract]
      by_cases c2 : i < w'.heap.size
      · rw [if_pos (by omega)]; congr 1; omega
      · rw [if_neg (by omega), Array.getElem?_eq_none (by omega)]
  obtain ⟨hp, tp, dr, o, out⟩ := w'
  obtain ⟨hp0, tp0, dr0, o0, out0⟩ := w
  simp only at h1 h2 h3 h4 e hd
  subst h1 h2 h3
  unfold Go.Sort.grow World.drewN
  simp only [World.mk.injEq, true_and, and_true]
  exact ⟨e, by omega⟩
set_option maxHeartbeats 8000000 in
set_option maxRecDepth 100000 in
theorem impl_collect.cmpD (k : Nat) (a0_0 : Int) (a0_1 : Int) (a0_2 : Int) (a0_3 : Int) (a1_0 : Int) (a1_1 : Int) (a1_2 : Int) (a1_3 : Int) (r : Int) (w : World) (h : impl_compareTerms.f k a0_0 a0_1 a0_2 a0_3 a1_0 a1_1 a1_2 a1_3 = some r) :
    Calls Tryz.prog 64 #[.agg #[.int .i64 a0_0, .int .i64 a0_1, .int .i64 a0_2, .int .i64 a0_3], .agg #[.int .i64 a1_0, .int .i64 a1_1, .int .i64 a1_2, .int .i64 a1_3]] w fun e w' => e = .returned (.int .i64 r) ∧ Below w.heap.size w w' ∧ w.drawn ≤ w'.drawn := by
  have hu62 := Tryz.underlying62
  have HB := qa (Below.refl w.heap.size w)
  have DR := qa (Nat.le_refl w.drawn)
  have H : ((cmp_Compare_int.f a0_1 a1_1).bind fun t237 => ((cmp_Compare_int.f a0_2 a1_2).bind fun t238 => ((cmp_Compare_int.f a0_3 a1_3).bind fun t239 => ((cmp_Or_int.f k (([t237, t238, t239] : List Int))).bind fun t243 => (some t243))))) = some r := h
  clear h
  replace H := qo H
  obtain ⟨t237, A3, H⟩ := H
  replace H : ((cmp_Compare_int.f a0_2 a1_2).bind fun t238 => ((cmp_Compare_int.f a0_3 a1_3).bind fun t239 => ((cmp_Or_int.f k (([t237, t238, t239] : List Int))).bind fun t243 => (some t243)))) = some r := H
  replace H := qo H
  obtain ⟨t238, A4, H⟩ := H
  replace H : ((cmp_Compare_int.f a0_3 a1_3).bind fun t239 => ((cmp_Or_int.f k (([t237, t238, t239] : List Int))).bind fun t243 => (some t243))) = some r := H
  replace H := qo H
  obtain ⟨t239, A5, H⟩ := H
  replace H : ((cmp_Or_int.f k (([t237, t238, t239] : List Int))).bind fun t243 => (some t243)) = some r := H
  obtain ⟨y240, hy240⟩ : ∃ y_ : List Int, y_ = (([t237, t238, t239] : List Int)) := ⟨_, rfl⟩
  replace H : ((cmp_Or_int.f k y240).bind fun t243 => (some t243)) = some r := by first | (rw [hy240]; with_reducible exact H) | (have H2_ := (Option.bind_some _ _).symm.trans H; rw [hy240]; with_reducible exact H2_) | (have H2_ := (Option.bind_some _ _).symm.trans H; with_reducible exact H2_) | with_reducible exact H | (rw [hy240]; exact H) | exact H
  have Ny240 := qa hy240
  clear hy240
  replace H := qo H
  obtain ⟨t243, A6, H⟩ := H
  replace H : (some t243) = some r := H
  obtain rfl := Option.some.inj H
  go_enter Tryz.func64, Tryz.ntmps64
  try go_wp2_with (first | ((with_reducible refine gate_dst (N := 2) rfl ?_); refine impl_collect.box_eventD ?hg (N := 2) ?hd (cs := #[.int .i64 a0_0, .int .i64 a0_1, .int .i64 a0_2, .int .i64 a0_3]) (t := 62) ?hr ?_; (case hd => rfl); (case hg => rfl); (case hr => first | (go_simp; done) | (go_simp; rfl)); intro gb235 hg w7 hwe hbox hb; replace DR : Aside0 (w.drawn ≤ w7.drawn) := ⟨by rw [hwe]; exact DR.out⟩; clear hwe; have n0_ := qa (below_step (by repeat (first | (with_reducible first | exact HB.out | apply below_alloc | apply pw_below_drewN | apply below_drew1) | exact HB.out)) hb); have n1_ := qa (hbox); have n2_ := qa ((by rw [hg]; exact (below_size (by repeat (first | (with_reducible first | exact HB.out | apply below_alloc | apply pw_below_drewN | apply below_drew1) | exact HB.out))) : w.heap.size ≤ gb235)); have n3_ := qa ((by rw [hg]; exact (below_size (by repeat (first | (with_reducible first | exact HB.out | apply below_alloc | apply pw_below_drewN | apply below_drew1) | exact HB.out))) : w.heap.size ≤ gb235)); clear HB; have HB := n0_; have BK235 := n1_; have GW235 := n2_; have GE235 := n3_; clear n0_ n1_ n2_ n3_; clear hb hbox hg) | ((with_reducible refine gate_dst (N := 3) rfl ?_); refine impl_collect.box_eventD ?hg (N := 3) ?hd (cs := #[.int .i64 a1_0, .int .i64 a1_1, .int .i64 a1_2, .int .i64 a1_3]) (t := 62) ?hr ?_; (case hd => rfl); (case hg => rfl); (case hr => first | (go_simp; done) | (go_simp; rfl)); intro gb236 hg w8 hwe hbox hb; replace DR : Aside0 (w.drawn ≤ w8.drawn) := ⟨by rw [hwe]; exact DR.out⟩; clear hwe; have n0_ := qa (blk_below (g := gb235) (o := .cells #[.int .i64 a0_0, .int .i64 a0_1, .int .i64 a0_2, .int .i64 a0_3] 62 (0, 0)) (zq1 BK235) hb); have n1_ := qa (below_step (by repeat (first | (with_reducible first | exact HB.out | apply below_alloc | apply pw_below_drewN | apply below_drew1 | refine below_set ?_ GE235.out) | exact HB.out)) hb); have n2_ := qa (hbox); have n3_ := qa ((by rw [hg]; exact (below_size (by repeat (first | (with_reducible first | exact HB.out | apply below_alloc | apply pw_below_drewN | apply below_drew1 | refine below_set ?_ GE235.out) | exact HB.out))) : w.heap.size ≤ gb236)); have n4_ := qa ((by rw [hg]; exact (below_size (by repeat (first | (with_reducible first | exact HB.out | apply below_alloc | apply pw_below_drewN | apply below_drew1 | refine below_set ?_ GE235.out) | exact HB.out))) : w.heap.size ≤ gb236)); have n5_ := qa ((by rw [hg]; exact Nat.ne_of_lt (blk_lt (g := gb235) (o := .cells #[.int .i64 a0_0, .int .i64 a0_1, .int .i64 a0_2, .int .i64 a0_3] 62 (0, 0)) (zq1 BK235)) : gb235 ≠ gb236)); have n6_ := qa ((by rw [hg]; exact Nat.ne_of_gt (blk_lt (g := gb235) (o := .cells #[.int .i64 a0_0, .int .i64 a0_1, .int .i64 a0_2, .int .i64 a0_3] 62 (0, 0)) (zq1 BK235)) : gb236 ≠ gb235)); clear BK235; clear HB; have BK235 := n0_; have HB := n1_; have BK236 := n2_; have GW236 := n3_; have GE236 := n4_; have NB235_236 := n5_; have NB236_235 := n6_; clear n0_ n1_ n2_ n3_ n4_ n5_ n6_; clear hb hbox hg))
  have n0_ := qa (blk_drew BK235.out)
  have n1_ := qa (blk_drew BK236.out)
  have n2_ := qa (below_drew1 HB.out)
  clear BK235
  clear BK236
  clear HB
  have BK235 := n0_
  have BK236 := n1_
  have HB := n2_
  clear n0_ n1_ n2_
  refine start_ (n := 18) (S := fun w' => w'.cell? ⟨gb235, 0, none⟩ = some (.int .i64 a0_0) ∧ w'.cell? ⟨gb235, 1, none⟩ = some (.int .i64 a0_1) ∧ w'.cell? ⟨gb235, 2, none⟩ = some (.int .i64 a0_2) ∧ w'.cell? ⟨gb235, 3, none⟩ = some (.int .i64 a0_3) ∧ w'.cell? ⟨gb236, 0, none⟩ = some (.int .i64 a1_0) ∧ w'.cell? ⟨gb236, 1, none⟩ = some (.int .i64 a1_1) ∧ w'.cell? ⟨gb236, 2, none⟩ = some (.int .i64 a1_2) ∧ w'.cell? ⟨gb236, 3, none⟩ = some (.int .i64 a1_3)) (ds := []) (bn 18 0) (by kernel_rfl) rfl rfl ⟨(blk_cell BK235.out 0).trans rfl, (blk_cell BK235.out 1).trans rfl, (blk_cell BK235.out 2).trans rfl, (blk_cell BK235.out 3).trans rfl, (blk_cell BK236.out 0).trans rfl, (blk_cell BK236.out 1).trans rfl, (blk_cell BK236.out 2).trans rfl, (blk_cell BK236.out 3).trans rfl⟩ (fun hHeld => ?_); refine with_tabW impl_compareTerms.tab1 impl_compareTerms.bits1 (fun HT_ HW_ => ?_)
  have DR2 : Aside0 (w.drawn ≤ w8.drew.drawn) := ⟨impl_collect.le_drew DR.out⟩
  clear DR
  have DR := DR2
  clear DR2
  generalize w8.drew = w9 at BK235 BK236 HB DR hHeld ⊢
  refine qp 0 5 18 1 HT_ ?_
  refine qp 2 7 18 5 HT_ ?_
  refine qp 5 10 18 37 HT_ ?_
  refine qp 7 12 18 165 HT_ ?_
  refine qp 10 15 18 1189 HT_ ?_
  refine qp 12 17 18 5285 HT_ ?_
  refine qk 1 6 18 5287 HT_ HW_ hHeld ?_
  refine qk 3 8 18 5295 HT_ HW_ hHeld ?_
  refine qk 6 11 18 5359 HT_ HW_ hHeld ?_
  refine qk 8 13 18 5615 HT_ HW_ hHeld ?_
  refine qk 11 16 18 7663 HT_ HW_ hHeld ?_
  refine qk 13 18 18 15855 HT_ HW_ hHeld ?_
  refine one_ (i := 4) (N := some 9) (bn 18 15871) rfl rfl (one_of HT_.out (by kernel_rfl)) (by decide) (fun K hK => ?_)
  refine goes_ Tryz.func83 (by kernel_rfl) rfl #[.int .i64 a0_1, .int .i64 a1_1] (by rfl) rfl rfl (by (try simp only [List.map_toArray, List.map_cons, List.map_nil]); first | done | rfl | (simp only [List.length_drop, List.length_take]; rfl)) ?_
  with_reducible refine (cmp_Compare_int.calls a0_1 a1_1 t237 _ A3.out).mono ?_
  rintro e w' ⟨rfl, ⟨nd, rfl⟩⟩
  refine ⟨_, rfl, ?_⟩
  refine hK.out _ _ ⟨(blk_cell BK235.out 0).trans rfl, (blk_cell BK235.out 1).trans rfl, (blk_cell BK235.out 2).trans rfl, (blk_cell BK235.out 3).trans rfl, (blk_cell BK236.out 0).trans rfl, (blk_cell BK236.out 1).trans rfl, (blk_cell BK236.out 2).trans rfl, (blk_cell BK236.out 3).trans rfl⟩ (fun hHeld => ?_)
  clear hK K
  refine norm_ (a' := ?_) ?_ ?_
  rotate_left
  · show Act.put _ (some 9) _ = _
    simp only [Act.put, List.setIfInBounds_toArray, List.set_cons_zero, List.set_cons_succ, i64_w, i32_w]
    rfl
  refine one_ (i := 9) (N := some 14) (bn 18 16383) rfl rfl (one_of HT_.out (by kernel_rfl)) (by decide) (fun K hK => ?_)
  refine goes_ Tryz.func83 (by kernel_rfl) rfl #[.int .i64 a0_2, .int .i64 a1_2] (by rfl) rfl rfl (by (try simp only [List.map_toArray, List.map_cons, List.map_nil]); first | done | rfl | (simp only [List.length_drop, List.length_take]; rfl)) ?_
  with_reducible refine (cmp_Compare_int.calls a0_2 a1_2 t238 _ A4.out).mono ?_
  rintro e w' ⟨rfl, ⟨nd, rfl⟩⟩
  refine ⟨_, rfl, ?_⟩
  refine hK.out _ _ ⟨(blk_cell BK235.out 0).trans rfl, (blk_cell BK235.out 1).trans rfl, (blk_cell BK235.out 2).trans rfl, (blk_cell BK235.out 3).trans rfl, (blk_cell BK236.out 0).trans rfl, (blk_cell BK236.out 1).trans rfl, (blk_cell BK236.out 2).trans rfl, (blk_cell BK236.out 3).trans rfl⟩ (fun hHeld => ?_)
  clear hK K
  refine norm_ (a' := ?_) ?_ ?_
  rotate_left
  · show Act.put _ (some 14) _ = _
    simp only [Act.put, List.setIfInBounds_toArray, List.set_cons_zero, List.set_cons_succ, i64_w, i32_w]
    rfl
  refine one_ (i := 14) (N := some 19) (bn 18 32767) rfl rfl (one_of HT_.out (by kernel_rfl)) (by decide) (fun K hK => ?_)
  refine goes_ Tryz.func83 (by kernel_rfl) rfl #[.int .i64 a0_3, .int .i64 a1_3] (by rfl) rfl rfl (by (try simp only [List.map_toArray, List.map_cons, List.map_nil]); first | done | rfl | (simp only [List.length_drop, List.length_take]; rfl)) ?_
  with_reducible refine (cmp_Compare_int.calls a0_3 a1_3 t239 _ A5.out).mono ?_
  rintro e w' ⟨rfl, ⟨nd, rfl⟩⟩
  refine ⟨_, rfl, ?_⟩
  refine hK.out _ _ ⟨(blk_cell BK235.out 0).trans rfl, (blk_cell BK235.out 1).trans rfl, (blk_cell BK235.out 2).trans rfl, (blk_cell BK235.out 3).trans rfl, (blk_cell BK236.out 0).trans rfl, (blk_cell BK236.out 1).trans rfl, (blk_cell BK236.out 2).trans rfl, (blk_cell BK236.out 3).trans rfl⟩ (fun hHeld => ?_)
  clear hK K
  refine norm_ (a' := ?_) ?_ ?_
  rotate_left
  · show Act.put _ (some 19) _ = _
    simp only [Act.put, List.setIfInBounds_toArray, List.set_cons_zero, List.set_cons_succ, i64_w, i32_w]
    rfl
  refine one_ (i := 15) (N := some 20) (bn 18 65535) rfl rfl (one_of HT_.out (by kernel_rfl)) (by decide) (fun K hK => ?_)
  refine impl_collect.lit_stepD (Kd.int .i64) _ 3 ?hg (N := 20) ?hd (xs := ([t237, t238, t239] : List Int)) (inner := [.int .i64 t237, .int .i64 t238, .int .i64 t239]) (ok := fun _ => True) (okp := fun _ => True) ?hr ?hp (fun _ hk => hk) trivial (Below.refl _ _) (Nat.le_refl _) (by simp) ?_; (case hd => rfl); (case hg => rfl); (case hr => first | (go_simp; done) | (go_simp; rfl)); (case hp => exact (Reps.one (show Kd.M (Kd.int .i64) _ _ _ t237 [.int .i64 t237] from rfl) (Reps.one (show Kd.M (Kd.int .i64) _ _ _ t238 [.int .i64 t238] from rfl) (Reps.one (show Kd.M (Kd.int .i64) _ _ _ t239 [.int .i64 t239] from rfl) (Reps.none _ _)))))
  intro v241 w10 hdr ho11 hb hg_ hnew_
  have DR2 : Aside0 (w.drawn ≤ w10.drawn) := ⟨by rw [hdr]; repeat (first | exact DR.out | refine impl_collect.le_drewN ?_)⟩
  clear DR hdr
  have DR := DR2
  clear DR2
  clear hg_ hnew_
  (first | rw [← Ny240.out] at ho11 | (simp only [Int.reduceToNat] at ho11; rw [← Ny240.out] at ho11))
  have n0_ := qa (Kd.R_lower ho11 (below_size (by repeat (first | (with_reducible first | exact HB.out | apply below_alloc | apply pw_below_drewN | apply below_drew1 | refine below_set ?_ GE235.out | refine below_set ?_ GE236.out) | exact HB.out))))
  have n1_ := qa (blk_below (g := gb235) (o := .cells #[.int .i64 a0_0, .int .i64 a0_1, .int .i64 a0_2, .int .i64 a0_3] 62 (0, 0)) (zq1 BK235) hb)
  have n2_ := qa (blk_below (g := gb236) (o := .cells #[.int .i64 a1_0, .int .i64 a1_1, .int .i64 a1_2, .int .i64 a1_3] 62 (0, 0)) (zq1 BK236) hb)
  have n3_ := qa (below_step (by repeat (first | (with_reducible first | exact HB.out | apply below_alloc | apply pw_below_drewN | apply below_drew1 | refine below_set ?_ GE235.out | refine below_set ?_ GE236.out) | exact HB.out)) hb)
  clear BK235
  clear BK236
  clear HB
  have HO242 := n0_
  have BK235 := n1_
  have BK236 := n2_
  have HB := n3_
  clear n0_ n1_ n2_ n3_
  clear hb ho11
  obtain ⟨Ao12, co12, eo12⟩ := Kd.R_slice HO242.out
  (first | subst eo12 | (injection eo12 with f1_ f2_ f3_; have f4_ := f1_.symm; have f5_ := f3_.symm; clear f1_ f2_ f3_; subst f4_; subst f5_))
  refine hK.out _ _ ⟨(blk_cell BK235.out 0).trans rfl, (blk_cell BK235.out 1).trans rfl, (blk_cell BK235.out 2).trans rfl, (blk_cell BK235.out 3).trans rfl, (blk_cell BK236.out 0).trans rfl, (blk_cell BK236.out 1).trans rfl, (blk_cell BK236.out 2).trans rfl, (blk_cell BK236.out 3).trans rfl⟩ (fun hHeld => ?_)
  clear hK K
  refine norm_ (a' := ?_) ?_ ?_
  rotate_left
  · show Act.put _ (some 20) _ = _
    simp only [Act.put, List.setIfInBounds_toArray, List.set_cons_zero, List.set_cons_succ, i64_w, i32_w]
    rfl
  refine one_ (i := 16) (N := some 21) (bn 18 131071) rfl rfl (one_of HT_.out (by kernel_rfl)) (by decide) (fun K hK => ?_)
  refine goes_ Tryz.func82 (by kernel_rfl) rfl #[.slice Ao12 y240.length co12] (by rfl) rfl rfl (by (try simp only [List.map_toArray, List.map_cons, List.map_nil]); first | done | rfl | (simp only [List.length_drop, List.length_take]; rfl)) ?_
  with_reducible refine (cmp_Or_int.calls k _ _ y240 t243 _ ?side1 ?side2 A6.out).mono ?_
  (case side1 => repeat (first | exact (Kd.R_reads' HO242.out).2.2 | (with_reducible refine Kd.C_alloc ?_ _) | (with_reducible refine Kd.C_drewN ?_ _) | (with_reducible refine Kd.C_drew ?_)))
  (case side2 => exact (Kd.R_reads' HO242.out).2.1)
  rintro e w' ⟨rfl, ⟨nd, rfl⟩⟩
  refine ⟨_, rfl, ?_⟩
  refine hK.out _ _ ⟨(blk_cell BK235.out 0).trans rfl, (blk_cell BK235.out 1).trans rfl, (blk_cell BK235.out 2).trans rfl, (blk_cell BK235.out 3).trans rfl, (blk_cell BK236.out 0).trans rfl, (blk_cell BK236.out 1).trans rfl, (blk_cell BK236.out 2).trans rfl, (blk_cell BK236.out 3).trans rfl⟩ (fun hHeld => ?_)
  clear hK K
  refine norm_ (a' := ?_) ?_ ?_
  rotate_left
  · show Act.put _ (some 21) _ = _
    simp only [Act.put, List.setIfInBounds_toArray, List.set_cons_zero, List.set_cons_succ, i64_w, i32_w]
    rfl
  refine qp 17 4 18 262143 HT_ ?_
  refine done_ (done_of HT_.out (by kernel_rfl)) ?_
  try go_wp2
  go_ret
  exact ⟨by first | rfl | (simp [errW_none, errW_some] <;> rfl) | (simp [*, errW_none, errW_some] <;> rfl), by repeat (first | (with_reducible first | exact HB.out | apply below_alloc | apply pw_below_drewN | apply below_drew1 | refine below_set ?_ GE235.out | refine below_set ?_ GE236.out) | exact HB.out), by repeat (first | exact DR.out | refine impl_collect.le_drewN ?_)⟩
def impl_collect.cf (s t : S62) : Int := Go.Proofs.YthanmlojikidbaaGreatCol.cmpk impl_collect.ops s t
theorem impl_collect.bs' {α β : Type} (a : α) (f : α → Option β) : (some a).bind f = f a := id (Option.bind_some a f)
theorem impl_collect.cmp1 (a b : Int) : cmp_Compare_int.f a b = some (if a < b then -1 else if b < a then 1 else 0) := by
  unfold cmp_Compare_int.f cmp_isNaN_int.f
  have h : ∀ x : Int, (x != x) = false := fun x => by simp
  rw [h, h, impl_collect.bs', impl_collect.bs', if_neg (by simp), if_neg (by simp)]
  by_cases c1 : a < b
  · rw [if_pos c1, if_pos c1]
  · rw [if_neg c1, if_neg c1]
    by_cases c2 : a > b
    · rw [if_pos c2, if_pos c2]
    · rw [if_neg c2, if_neg c2]
theorem impl_collect.or1 (a b c : Int) (K : Nat) : cmp_Or_int.f (K + 4) [a, b, c] = some (if a = 0 then (if b = 0 then c else b) else a) := by
  unfold cmp_Or_int.f
  have w0 : wrap64 (0 + 1) = 1 := by unfold wrap64; omega
  have w1 : wrap64 (1 + 1) = 2 := by unfold wrap64; omega
  have w2 : wrap64 (2 + 1) = 3 := by unfold wrap64; omega
  have r0 : rd [a, b, c] 0 = a := rfl
  have r1 : rd [a, b, c] 1 = b := rfl
  have r2 : rd [a, b, c] 2 = c := rfl
  have hl : (([a, b, c] : List Int).length : Int) = 3 := rfl
  rw [hl]
  by_cases h1 : a = 0
  · by_cases h2 : b = 0
    · by_cases h3 : c = 0
      · simp only [cmp_Or_int.l0, hl, w0, w1, w2, r0, r1, r2]
        rw [if_pos h1, if_pos h2]
        simp [h1, h2, h3]
      · simp only [cmp_Or_int.l0, hl, w0, w1, w2, r0, r1, r2]
        simp [h1, h2, h3]
    · simp only [cmp_Or_int.l0, hl, w0, w1, w2, r0, r1, r2]
      simp [h1, h2]
  · simp only [cmp_Or_int.l0, hl, w0, w1, w2, r0, r1, r2]
    simp [h1]
theorem impl_collect.cmp2 (s t : S62) (K : Nat) (hK : 4 ≤ K) : impl_compareTerms.f K s.f0 s.f1 s.f2 s.f3 t.f0 t.f1 t.f2 t.f3 = some (impl_collect.cf s t) := by
  obtain ⟨K, rfl⟩ : ∃ j, K = j + 4 := ⟨K - 4, by omega⟩
  unfold impl_compareTerms.f
  rw [impl_collect.cmp1]; simp only [impl_collect.bs']
  rw [impl_collect.cmp1]; simp only [impl_collect.bs']
  rw [impl_collect.cmp1]; simp only [impl_collect.bs']
  rw [impl_collect.or1]; simp only [impl_collect.bs']
  congr 1
  show _ = Go.Proofs.YthanmlojikidbaaGreatCol.cmpk impl_collect.ops s t
  unfold Go.Proofs.YthanmlojikidbaaGreatCol.cmpk impl_collect.ops
  simp only []
  repeat' split
  all_goals omega
def impl_collect.enc (s : S62) : List Value := [.int .i64 s.f0, .int .i64 s.f1, .int .i64 s.f2, .int .i64 s.f3]
instance : Inhabited S62 := ⟨z62⟩
theorem impl_collect.swo : Go.Sort.SWO (ltOf impl_collect.cf) := by
  have e : ∀ x y, ltOf impl_collect.cf x y = decide (Go.Proofs.YthanmlojikidbaaGreatCol.Lt impl_collect.ops x y) := fun x y => decide_eq_decide.2 Go.Proofs.YthanmlojikidbaaGreatCol.cmpk_lt
  refine ⟨fun x => ?_, fun x y z h1 h2 => ?_, fun x y z h1 h2 => ?_⟩
  · rw [e]; exact decide_eq_false (Go.Proofs.YthanmlojikidbaaGreatCol.Lt.irrefl x)
  · rw [e] at h1 h2 ⊢
    exact decide_eq_true ((of_decide_eq_true h1).trans (of_decide_eq_true h2))
  · rw [e] at h1 h2 ⊢
    have a1 := of_decide_eq_false h1
    have a2 := of_decide_eq_false h2
    refine decide_eq_false ?_
    unfold Go.Proofs.YthanmlojikidbaaGreatCol.Lt at *
    omega
theorem impl_collect.lays (blk off size : Nat) (w : World) : CmpLays Tryz.prog 64 #[] impl_collect.enc 4 impl_collect.cf blk off size w := by
  intro m os dk _ x y
  refine (impl_collect.cmpD 4 x.f0 x.f1 x.f2 x.f3 y.f0 y.f1 y.f2 y.f3 (impl_collect.cf x y) _ (impl_collect.cmp2 x y 4 (Nat.le_refl _))).mono ?_
  rintro e w' ⟨rfl, hb, hd⟩
  exact ⟨rfl, impl_collect.grows hb hd⟩
theorem impl_collect.one4 : ∀ x, ∀ v ∈ impl_collect.enc x, v.oneCell' = true := by
  intro x v h
  simp only [impl_collect.enc, List.mem_cons, List.not_mem_nil, or_false] at h
  rcases h with rfl | rfl | rfl | rfl <;> rfl
theorem impl_collect.inner {w : World} {base : Nat} {ok : Nat → Prop} {xs : List S62} {inner : List Value} (hr : Reps (k62.M w base ok) 4 xs inner) (t : Nat) (ht : t < xs.length * 4) : inner[t]? = some ((flatK impl_collect.enc 4 xs.toArray)[t]!) := by
  have hj : t / 4 < xs.length := by omega
  have h1 := hr.2 (t / 4) _ (List.getElem?_eq_getElem hj)
  have h2 := k62_openM h1
  have e : (xs.toArray)[t / 4]! = xs[t / 4] := by rw [getElem!_pos xs.toArray (t / 4) (by simpa using hj)]; simp
  have hl : t % 4 < (impl_collect.enc xs[t / 4]).length := by show t % 4 < 4; omega
  have h3 : ((inner.drop (t / 4 * 4)).take 4)[t % 4]? = (impl_collect.enc xs[t / 4])[t % 4]? := by rw [h2]; rfl
  rw [List.getElem?_take_of_lt (by omega), List.getElem?_drop, show t / 4 * 4 + t % 4 = t by omega, List.getElem?_eq_getElem hl] at h3
  rw [h3, get_flatK _ _ _ _ (by simpa using ht), e, getElem!_pos (impl_collect.enc xs[t / 4]) (t % 4) hl]
theorem impl_collect.reps {w : World} {base : Nat} {ok : Nat → Prop} (d : Array S62) : Reps (k62.M w base ok) 4 d.toList (flatK impl_collect.enc 4 d).toList := by
  refine ⟨by simp, fun j p hp => ?_⟩
  have hj : j < d.size := by
    have := (List.getElem?_eq_some_iff.1 hp).1
    simpa using this
  have e : d[j]! = p := by
    rw [getElem!_pos d j hj]
    have := (List.getElem?_eq_some_iff.1 hp).2
    simpa using this
  have h : ((flatK impl_collect.enc 4 d).toList.drop (j * 4)).take 4 = impl_collect.enc p := by
    apply List.ext_getElem?
    intro r
    by_cases c : r < 4
    · have ht : j * 4 + r < d.size * 4 := by omega
      rw [List.getElem?_take_of_lt c, List.getElem?_drop, Array.getElem?_toList]
      have h1 : j * 4 + r < (flatK impl_collect.enc 4 d).size := by rw [size_flatK]; exact ht
      rw [Array.getElem?_eq_getElem h1, ← getElem!_pos (flatK impl_collect.enc 4 d) (j * 4 + r) h1, get_flatK _ _ _ _ ht, show (j * 4 + r) / 4 = j by omega, show (j * 4 + r) % 4 = r by omega, e]
      have hl : r < (impl_collect.enc p).length := c
      rw [getElem!_pos (impl_collect.enc p) r hl, List.getElem?_eq_getElem hl]
    · rw [List.getElem?_take_eq_none (by omega), List.getElem?_eq_none (by show 4 ≤ r; omega)]
  rw [h]
  exact k62_mkM w base ok p
theorem impl_collect.holds {w : World} {base g n c : Nat} {ok : Nat → Prop} {xs : List S62} (h : Kd.R k62 62 w base ok (.slice (some ⟨g, 0, none⟩) n c) xs) : HoldsK impl_collect.enc 4 w g 0 xs.toArray ∧ g < w.heap.size ∧ base ≤ g := by
  obtain ⟨h0, inner, ho, hr⟩ := h
  obtain ⟨hl, ho⟩ := ho
  rcases ho with ⟨h1, _⟩ | ⟨g', cap, cur, h1, hb, hh, h2, h3, h4, h5⟩
  · cases h1
  · have hg : g' = g := by injection h1 with e; injection e with e; injection e with e; exact e.symm
    subst hg
    refine ⟨fun t ht => ?_, (Array.getElem?_eq_some_iff.1 hh).1, hb⟩
    have ht' : t < xs.length * 4 := by rw [size_flatK] at ht; simpa using ht
    have hz : k62.sz = 4 := rfl
    have e1 := impl_collect.inner hr t ht'
    have h5' : cur.toList.take (xs.length * 4) = inner := h5
    rw [← h5', List.getElem?_take_of_lt ht', Array.getElem?_toList] at e1
    exact ⟨by simp only [World.cell?, hh, Nat.zero_add]; simpa using e1, by simp [World.frozen?, hh]⟩
theorem impl_collect.ofSWK {w w' : World} {base g n c : Nat} {ok : Nat → Prop} {xs : List S62} {d' : Array S62} (h : Kd.R k62 62 w base ok (.slice (some ⟨g, 0, none⟩) n c) xs) (hs : SWK impl_collect.enc 4 w g 0 d' w') (hz : d'.size = xs.length) :
    Kd.R k62 62 w' base ok (.slice (some ⟨g, 0, none⟩) n c) d'.toList ∧ ∀ B, B ≤ g → Below B w w' := by
  obtain ⟨h0, inner, ho, hr⟩ := h
  obtain ⟨hl, ho⟩ := ho
  obtain ⟨q, os, rfl⟩ := hs
  rcases ho with ⟨h1, _⟩ | ⟨g', cap, cur, h1, hb, hh, h2, h3, h4, h5⟩
  · cases h1
  · have hg : g' = g := by injection h1 with e; injection e with e; injection e with e; exact e.symm
    have hn : n = xs.length := by injection h1
    have hc : c = cap := by injection h1
    subst hg
    subst hc
    subst hn
    have hsz : g' < w.heap.size := (Array.getElem?_eq_some_iff.1 hh).1
    have h4' : cur.size = c * 4 := h4
    have hheap : (sortWorldK impl_collect.enc 4 w g' 0 q d' os).heap[g']? = some (.cells (putCells id 0 (flatK impl_collect.enc 4 d') cur) 62 (0, 0)) := by
      unfold sortWorldK putRowK
      rw [heap_grow_old _ _ (by simpa [putRow, mapBlock, Sort.ahead] using hsz)]
      simp [putRow, mapBlock, Sort.ahead, Array.getElem?_modify, hh, onCells]
    refine ⟨⟨h0, (flatK impl_collect.enc 4 d').toList, ⟨by simp [hz]; rfl, .inr ⟨g', c, _, by simp [hz], hb, hheap, by simpa [hz] using h2, h3, by simp [putCells, h4], ?_⟩⟩, impl_collect.reps d'⟩, fun B hB => ⟨rfl, rfl, rfl, by simp [sortWorldK, putRowK, putRow, mapBlock, Sort.ahead], fun k hk => ?_⟩⟩
    · show (putCells id 0 (flatK impl_collect.enc 4 d') cur).toList.take (d'.toList.length * 4) = _
      apply List.ext_getElem?
      intro j
      by_cases hj : j < d'.size * 4
      · rw [List.getElem?_take_of_lt (by simpa using hj), Array.getElem?_toList]
        have hjc : j < cur.size := by omega
        simp [putCells, hj, hjc]
      · rw [List.getElem?_take_eq_none (by simp; omega), List.getElem?_eq_none (by simp; omega)]
    · unfold sortWorldK putRowK
      by_cases hkw : k < w.heap.size
      · rw [heap_grow_old _ _ (by simpa [putRow, mapBlock, Sort.ahead] using hkw)]
        simp [putRow, mapBlock, Sort.ahead, Array.getElem?_modify, show g' ≠ k by omega]
      · omega
set_option maxHeartbeats 8000000 in
set_option maxRecDepth 100000 in
theorem impl_collect.cloneP (ad : Addr) (c0 : Nat) (l0 : List (S62)) (r : List (S62)) (w : World) (hr0 : Kd.C k62 w (some ad) l0.length l0) (hc0 : l0.length ≤ c0) (h : ((some (([] : List (S62)) : List (S62))).bind fun y373 => (if y373.length + l0.length < 4398046511104 then (some (y373 ++ l0)) else (none))) = some r) :
    Calls Tryz.prog 68 #[.slice (some ad) l0.length c0] w fun e w' => ∃ v0_ : Value, e = .returned (v0_) ∧ Kd.R k62 62 w' w.heap.size (fun _ => True) v0_ r ∧ Below w.heap.size w w' := by
  have HR0 := qa hr0
  have HC0 := qa hc0
  clear hr0 hc0
  have HB := qa (Below.refl w.heap.size w)
  have H : ((some (([] : List (S62)) : List (S62))).bind fun y373 => (if y373.length + l0.length < 4398046511104 then (some (y373 ++ l0)) else (none))) = some r := h
  clear h
  obtain ⟨y373, hy373⟩ : ∃ y_ : List (S62), y_ = (([] : List (S62))) := ⟨_, rfl⟩
  replace H : (if y373.length + l0.length < 4398046511104 then (some (y373 ++ l0)) else (none)) = some r := by first | (rw [hy373]; with_reducible exact H) | (have H2_ := (Option.bind_some _ _).symm.trans H; rw [hy373]; with_reducible exact H2_) | (have H2_ := (Option.bind_some _ _).symm.trans H; with_reducible exact H2_) | with_reducible exact H | (rw [hy373]; exact H) | exact H
  have Ny373 := qa hy373
  clear hy373
  by_cases c2 : y373.length + l0.length < 4398046511104
  · rw [if_pos c2] at H
    have LMc2 := qa c2
    clear c2
    obtain ⟨y376, hy376⟩ : ∃ y_ : List (S62), y_ = (y373 ++ l0) := ⟨_, rfl⟩
    replace H : (some y376) = some r := by first | (rw [hy376]; with_reducible exact H) | (have H2_ := (Option.bind_some _ _).symm.trans H; rw [hy376]; with_reducible exact H2_) | (have H2_ := (Option.bind_some _ _).symm.trans H; with_reducible exact H2_) | with_reducible exact H | (rw [hy376]; exact H) | exact H
    have Ny376 := qa hy376
    clear hy376
    obtain rfl := Option.some.inj H
    have q25 : ∀ (w : World) (a : Option Addr) (n c : Nat), (binOp .eql 24 (.slice a n c) (.slice none 0 0)).run Tryz.prog w = .ok (.bool a.isNone) w := fun w a n c => Go.Lib.run_eql_slice_nil w 24 62 a n c _ _ Tryz.underlying24
    go_enter Tryz.func68, Tryz.ntmps68
    go_wp2_with (first | ((with_reducible refine gate_dst (N := 5) rfl ?_); refine Kd.R_lit k62 _ 62 ?hg (N := 5) ?hd (xs := ([] : List (S62))) (inner := []) (ok := fun _ => True) (okp := fun _ => True) ?hr ?hp (fun _ hk => hk) trivial (Below.refl _ _) (Nat.le_refl _) (by simp) ?_; (case hd => rfl); (case hg => rfl); (case hr => first | (go_simp; done) | (go_simp; rfl)); (case hp => exact (Reps.none _ _)); intro v374 w3 ho4 hb hg_ hnew_; clear hg_ hnew_; (first | rw [← Ny373.out] at ho4 | (simp only [Int.reduceToNat] at ho4; rw [← Ny373.out] at ho4)); have n0_ := qa (Kd.R_lower ho4 (below_size (by repeat (first | (with_reducible first | exact HB.out | apply below_alloc | apply pw_below_drewN | apply below_drew1) | exact HB.out)))); have n1_ := qa (below_step (by repeat (first | (with_reducible first | exact HB.out | apply below_alloc | apply pw_below_drewN | apply below_drew1) | exact HB.out)) hb); clear HB; have HO375 := n0_; have HB := n1_; clear n0_ n1_; clear hb ho4) | ((with_reducible refine gate_builtin (b := .append) (xs := #[.tmp 5, .tmp 6]) rfl ?_); at_builtin; refine Kd.R_append_rows k62 (w0 := w) w.heap.size rfl (.tmp 5) (.tmp 6) 24 62 (.agg #[(.int .i64 0), (.int .i64 0), (.int .i64 0), (.int .i64 0)]) 32 rfl Tryz.underlying24 info62 rfl (by decide) (by omega) v374 y373 l0 _ _ _ (fun _ => True) (fun _ => False) rfl rfl ?aO ?aR (fun _ _ h => h) (fun _ h => h.elim) ?aF ?aB ?aS ?aL ?_; (case aR => repeat (first | exact (Kd.C_below HR0.out HB.out) | (with_reducible refine Kd.C_alloc ?_ _) | (with_reducible refine Kd.C_drewN ?_ _) | (with_reducible refine Kd.C_drew ?_))); (case aB => exact (by repeat (first | (with_reducible first | exact HB.out | apply below_alloc | apply pw_below_drewN | apply below_drew1) | exact HB.out))); (case aF => exact (fun _ _ => trivial)); (case aO => exact (by (with_reducible repeat (first | apply Kd.R_alloc | apply Kd.R_drewN | apply Kd.R_drew)); exact HO375.out)); (case aS => exact (below_size (by repeat (first | (with_reducible first | exact HB.out | apply below_alloc | apply pw_below_drewN | apply below_drew1) | exact HB.out)))); (case aL => have := LMc2.out; omega); intro v377 w5 ho hb hg hat; rw [← Ny376.out] at ho; have n0_ := qa (hb); have n1_ := qa (ho); clear HB; clear HO375; have HB := n0_; have HO378 := n1_; clear n0_ n1_; clear ho hb hg hat))
    go_ret
    exact ⟨_, by first | rfl | (simp [errW_none, errW_some] <;> rfl) | (simp [*, errW_none, errW_some] <;> rfl), by (with_reducible repeat (first | apply Kd.R_alloc | apply Kd.R_drewN | apply Kd.R_drew)); exact HO378.out, by repeat (first | (with_reducible first | exact HB.out | apply below_alloc | apply pw_below_drewN | apply below_drew1) | exact HB.out)⟩
  · rw [if_neg c2] at H
    exact absurd H (by simp)
theorem impl_collect.clone (A0 : Option Addr) (c0 : Nat) (l0 : List S62) (w : World) (hr0 : Kd.C k62 w A0 l0.length l0) (hc0 : l0.length ≤ c0) (hm : l0.length < 4398046511104) :
    Calls Tryz.prog 68 #[.slice A0 l0.length c0] w fun e w' => ∃ v0_ : Value, e = .returned (v0_) ∧ Kd.R k62 62 w' w.heap.size (fun _ => True) v0_ l0 ∧ Below w.heap.size w w' := by
  cases A0 with
  | none =>
    have HB := qa (Below.refl w.heap.size w)
    have q25 : ∀ (w : World) (a : Option Addr) (n c : Nat), (binOp .eql 24 (.slice a n c) (.slice none 0 0)).run Tryz.prog w = .ok (.bool a.isNone) w := fun w a n c => Go.Lib.run_eql_slice_nil w 24 62 a n c _ _ Tryz.underlying24
    have hl : l0 = [] := by
      rcases Nat.eq_zero_or_pos l0.length with h | h
      · exact List.length_eq_zero_iff.1 h
      · obtain ⟨ad, e, _⟩ := at_T62 hr0 0 (by omega) (by omega); cases e
    subst hl
    clear hr0 hm
    go_enter Tryz.func68, Tryz.ntmps68
    go_wp2
    go_ret
    exact ⟨_, by first | rfl | (simp; done) | (simp [*]; done), Kd.R_nil _ _ _ _ _, (zb0 HB)⟩
  | some ad => exact impl_collect.cloneP ad c0 l0 l0 w hr0 hc0 (by rw [impl_collect.bs', if_pos (by simpa using hm), List.nil_append])
set_option maxHeartbeats 8000000 in
set_option maxRecDepth 100000 in
theorem impl_collect.pred (a0 a1 a2 a3 : Int) (r : Bool) (w : World) (h : (some (a0 == 0)) = some r) : Calls Tryz.prog 71 #[.agg #[.int .i64 a0, .int .i64 a1, .int .i64 a2, .int .i64 a3]] w fun e w' => e = .returned (.bool r) ∧ Below w.heap.size w w' := by
  obtain rfl := Option.some.inj h
  have hu57 := Tryz.underlying62
  have HB := qa (Below.refl w.heap.size w)
  clear h
  go_enter Tryz.func71, Tryz.ntmps71
  go_wp2_with ((with_reducible refine gate_dst (N := 1) rfl ?_); refine zbe (N := 1) (cs := #[.int .i64 a0, .int .i64 a1, .int .i64 a2, .int .i64 a3]) (t := 62) ?_; intro gb2 hg w2 hbox hb; have BK2 := qa hbox; replace HB := qa (below_step (zb0 HB) hb); clear hb hbox hg; have hc0 : w2.cell? ⟨gb2, 0, none⟩ = some (.int .i64 a0) := zc BK2 0)
  go_ret
  exact ⟨qf, (zb1 HB)⟩
def impl_collect.ix : Nat → List S62 → Int → Option Int
  | 0, _, _ => none
  | k + 1, l, i => if i < (l.length : Int) then (if 0 ≤ i then (if (rd_T62 l i).f0 = 0 then some i else impl_collect.ix k l (wrap64 (i + 1))) else none) else some (-1)
set_option maxHeartbeats 8000000 in
set_option maxRecDepth 100000 in
theorem impl_collect.index (k : Nat) (A0 : Option Addr) (c0 : Nat) (l0 : List S62) (r : Int) (w : World) (hr0 : Kd.C k62 w A0 l0.length l0) (h : impl_collect.ix k l0 0 = some r) :
    Calls Tryz.prog 77 #[.slice A0 l0.length c0, .func (.func 71) #[] #[]] w fun e w' => e = .returned (.int .i64 r) ∧ Below w.heap.size w w' := by
  have hu57 := Tryz.underlying62
  have HR0 := qa hr0
  have HB := qa (Below.refl w.heap.size w)
  have H' := qa h
  clear hr0 h
  go_enter Tryz.func77, Tryz.ntmps77
  go_wp2
  go_loopg [8] k (fun kq v8 w' => ∃ (i : Int), v8 = .int .i64 i ∧ Aside0 (impl_collect.ix kq l0 i = some r) ∧ Aside0 (kq ≤ k) ∧ Aside0 (Below w.heap.size w w'))
  case atStart => exact ⟨0, qf, H', ⟨Nat.le_refl _⟩, ⟨(zb0 HB)⟩⟩
  case round =>
    clear H' HB
    obtain ⟨i, rfl, HA, HK1, HB⟩ := hrel
    cases gk with
    | zero => exact absurd HA.out (by simp [impl_collect.ix])
    | succ k1 =>
      have H := HA.out
      clear HA
      simp only [impl_collect.ix] at H
      by_cases c : i < (l0.length : Int)
      · rw [if_pos c] at H
        by_cases c' : 0 ≤ i
        · rw [if_pos c'] at H
          have cb := decide_eq_true c
          have cb' := decide_eq_true c'
          obtain ⟨ad, ead, hx0, hx1, hx2, hx3⟩ := at_T62 HR0.out i c' c
          subst ead
          replace hx0 := qb HB hx0
          replace hx1 := qb HB hx1
          replace hx2 := qb HB hx2
          replace hx3 := qb HB hx3
          have p1 := eq_true c
          have p2 := eq_true c'
          clear c c'
          by_cases cg : (rd_T62 l0 i).f0 = 0
          · rw [if_pos cg] at H
            obtain rfl := Option.some.inj H
            have hp : (some ((rd_T62 l0 i).f0 == 0)) = some true := by rw [cg]; rfl
            have HP := qa hp
            clear hp cg
            go_wp2_with (go_at_call 71; refine (impl_collect.pred (rd_T62 l0 i).f0 (rd_T62 l0 i).f1 (rd_T62 l0 i).f2 (rd_T62 l0 i).f3 true _ HP.out).mono ?_; rintro e w6 ⟨rfl, hb⟩; replace HB := qa (below_step (zb0 HB) hb); clear hb)
            go_ret
            exact ⟨qf, (zb1 HB)⟩
          · rw [if_neg cg] at H
            have H' := qa H
            have hp : (some ((rd_T62 l0 i).f0 == 0)) = some false := by rw [beq_false_of_ne cg]
            have HP := qa hp
            clear hp cg H
            go_wp2_with (go_at_call 71; refine (impl_collect.pred (rd_T62 l0 i).f0 (rd_T62 l0 i).f1 (rd_T62 l0 i).f2 (rd_T62 l0 i).f3 false _ HP.out).mono ?_; rintro e w6 ⟨rfl, hb⟩; replace HB := qa (below_step (zb0 HB) hb); clear hb)
            go_roundg k1
            case measure => have := HK1.out; omega
            case rel => exact ⟨(wrap64 (i + 1)), qf, H', ⟨by have := HK1.out; omega⟩, ⟨(zb0 HB)⟩⟩
        · rw [if_neg c'] at H; cases H
      · rw [if_neg c] at H
        obtain rfl := Option.some.inj H
        have cb := decide_eq_false c
        clear c
        go_wp2
        go_ret
        exact ⟨qf, (zb1 HB)⟩
theorem impl_collect.setCells_at {g : Nat} {e : TypeId} {fr : Nat × Nat} : ∀ (vs : List Value) (o : Nat) (w : World) (cur : Array Value), w.heap[g]? = some (.cells cur e fr) → ∃ cur', (w.setCells g o vs).heap[g]? = some (.cells cur' e fr) ∧ cur'.size = cur.size ∧ ∀ t, t < o → cur'[t]? = cur[t]?
  | [], o, w, cur, h => ⟨cur, h, rfl, fun _ _ => rfl⟩
  | v :: r, o, w, cur, h => by
    have h1 : (w.setCell ⟨g, o, none⟩ v).heap[g]? = some (.cells (cur.setIfInBounds o v) e fr) := by
      rw [setCell_eq]; simp [mapBlock, Array.getElem?_modify, h, onCells]
    obtain ⟨cur', h2, h3, h4⟩ := impl_collect.setCells_at r (o + 1) _ _ h1
    refine ⟨cur', by rw [World.setCells]; exact h2, by rw [h3]; simp, fun t ht => ?_⟩
    rw [h4 t (by omega), Array.getElem?_setIfInBounds_ne (by omega)]
theorem impl_collect.setCells_below {g B : Nat} (hB : B ≤ g) : ∀ (vs : List Value) (o : Nat) (w : World), Below B w (w.setCells g o vs)
  | [], o, w => Below.refl _ _
  | v :: r, o, w => by
    rw [World.setCells]
    have h1 : Below B w (w.setCell ⟨g, o, none⟩ v) := ⟨rfl, rfl, rfl, by simp [World.setCell], fun k hk => Below.heap_setCell w ⟨g, o, none⟩ v k (by show k ≠ g; omega)⟩
    exact h1.trans (impl_collect.setCells_below hB r (o + 1) _)
theorem impl_collect.clr {w : World} {base g n c i : Nat} {ok : Nat → Prop} {xs : List S62} (h : Kd.R k62 62 w base ok (.slice (some ⟨g, 0, none⟩) n c) xs) (hi : i < xs.length) :
    ∃ W', (∀ ty, (Builtin.clear_ #[24] ty #[.slice (some ⟨g, i * 4, none⟩) (n - i) (c - i)]).run Tryz.prog w = .ok (.tuple #[]) W') ∧ Kd.R k62 62 W' base ok (.slice (some ⟨g, 0, none⟩) i c) (xs.take i) ∧ (∀ B, B ≤ g → Below B w W') := by
  have h' := Kd.R_take h (Nat.le_of_lt hi)
  obtain ⟨h0, inner, ho, hr⟩ := h
  obtain ⟨hl, ho⟩ := ho
  rcases ho with ⟨h1, _⟩ | ⟨g', cap, cur, h1, hb, hh, h2, h3, h4, h5⟩
  · cases h1
  · have hg : g' = g := by injection h1 with e; injection e with e; injection e with e; exact e.symm
    have hn : n = xs.length := by injection h1
    have hc : c = cap := by injection h1
    subst hg
    subst hc
    subst hn
    have h4' : cur.size = c * 4 := h4
    obtain ⟨Z, hZ⟩ : ∃ Z, Z = (Builtin.zeroCells (Value.cells (.agg #[.int .i64 0, .int .i64 0, .int .i64 0, .int .i64 0])) (xs.length - i)).toList := ⟨_, rfl⟩
    have hce : Value.cells (.agg #[.int .i64 0, .int .i64 0, .int .i64 0, .int .i64 0]) = #[.int .i64 0, .int .i64 0, .int .i64 0, .int .i64 0] := by first | rfl | simp [Value.cells]
    have hzl : Z.length = (xs.length - i) * 4 := by rw [hZ, hce]; simp [Builtin.zeroCells]
    have hz1 : ∀ v ∈ Z, v.oneCell' = true := by
      intro v hv
      rw [hZ, hce] at hv
      simp only [Builtin.zeroCells, Array.toList_map, List.mem_map] at hv
      obtain ⟨j, _, e⟩ := hv
      rw [← e]
      have hm : j % 4 < 4 := Nat.mod_lt _ (by omega)
      show ((#[Value.int .i64 0, .int .i64 0, .int .i64 0, .int .i64 0] : Array Value)[j % 4]!).oneCell' = true
      rcases (show j % 4 = 0 ∨ j % 4 = 1 ∨ j % 4 = 2 ∨ j % 4 = 3 by omega) with q | q | q | q <;> rw [q] <;> rfl
    have hst := run_storeCells_cells (P := Tryz.prog) g' (i * 4) Z 0 w (fun j hj => by
        simp only [World.cell?, hh]
        have : i * 4 + j < cur.size := by omega
        simp [this]) (fun j hj => by simp [World.frozen?, hh]) hz1
    simp only [Nat.add_zero] at hst
    obtain ⟨m, hm⟩ : ∃ m, xs.length - i = m + 1 := ⟨xs.length - i - 1, by omega⟩
    refine ⟨w.setCells g' (i * 4) Z, fun ty => ?_, ?_, fun B hB => impl_collect.setCells_below hB _ _ _⟩
    · rw [hm] at hZ ⊢
      simp [Builtin.clear_, run_underlying Tryz.underlying24, Tryz.zeroValue62, ← hZ, hst]
    · obtain ⟨k0, inner', ho', hr'⟩ := h'
      obtain ⟨hl', ho'⟩ := ho'
      rcases ho' with ⟨e1, _⟩ | ⟨g2, cap2, cur2, e1, eb, eh, e2, e3, e4, e5⟩
      · cases e1
      · have hg2 : g2 = g' := by injection e1 with e; injection e with e; injection e with e; exact e.symm
        have hc2 : c = cap2 := by injection e1
        subst hg2
        subst hc2
        have ecur : cur2 = cur := by
          rw [hh] at eh; injection eh with eh; injection eh with eh; exact eh.symm
        subst ecur
        obtain ⟨cur', s1, s2, s3⟩ := impl_collect.setCells_at Z (i * 4) w cur2 hh
        have hil : (xs.take i).length = i := by rw [List.length_take]; omega
        refine ⟨k0, inner', ⟨hl', .inr ⟨g2, c, cur', e1, eb, s1, e2, e3, by rw [s2]; exact e4, ?_⟩⟩, hr'.imp_ (fun p cc hp => by rw [k62_openM hp]; exact k62_mkM _ _ _ p)⟩
        rw [← e5, hil]
        show cur'.toList.take (i * 4) = cur2.toList.take (i * 4)
        apply List.ext_getElem?
        intro j
        by_cases hj : j < i * 4
        · rw [List.getElem?_take_of_lt hj, List.getElem?_take_of_lt hj, Array.getElem?_toList, Array.getElem?_toList, s3 j hj]
        · rw [List.getElem?_take_eq_none (by omega), List.getElem?_take_eq_none (by omega)]
def impl_collect.dl : Nat → List (S62) → Int → Int → Option (Int × (List (S62)))
  | 0, _, _, _ => none
  | k + 1, x0, x5, x6 => if x6 < (x0.length : Int) then (if 0 ≤ x6 then ((some ((rd_T62 x0 x6).f0 == 0)).bind fun t382 => (if t382 = true then (impl_collect.dl k x0 x5 (wrap64 (x6 + 1))) else (if 0 ≤ x5 then (if x5 < (x0.length : Int) then (impl_collect.dl k (x0.set (x5 : Int).toNat (⟨(rd_T62 x0 x6).f0, (rd_T62 x0 x6).f1, (rd_T62 x0 x6).f2, (rd_T62 x0 x6).f3⟩ : S62)) (wrap64 (x5 + 1)) (wrap64 (x6 + 1))) else (none)) else (none)))) else (none)) else (if 0 ≤ x5 then (if x5 < (x0.length : Int) then some (x5, x0) else none) else none)
def impl_collect.del (k : Nat) (l : List S62) : Option (List S62) := (impl_collect.ix k l 0).bind fun t => if t = -1 then some l else (impl_collect.dl k l t (wrap64 (t + 1))).bind fun p => some (p.2.take p.1.toNat)
set_option maxHeartbeats 8000000 in
set_option maxRecDepth 100000 in
theorem impl_collect.deleteN (k : Nat) (P0_ : Nat → Prop) (u9000_ : Value) (l0 : List (S62)) (r : List (S62)) (w0 w : World) (hB : Below w0.heap.size w0 w) (ho0 : Kd.R k62 62 w w0.heap.size P0_ u9000_ l0) (h : impl_collect.del k l0 = some r) :
    Calls Tryz.prog 70 #[u9000_, .func (.func 71) #[] #[]] w fun e w' => ∃ v1_ : Value, e = .returned v1_ ∧ Kd.R k62 62 w' w0.heap.size (fun k_ => (P0_ k_ ∨ w.heap.size ≤ k_)) v1_ r ∧ Below w0.heap.size w0 w' := by
  have hu62 := Tryz.underlying62
  have HO0 := qa (show Kd.R k62 62 w w0.heap.size (fun k_ => (P0_ k_ ∨ w.heap.size ≤ k_)) u9000_ l0 from Kd.R_mono ho0 (fun k_ hk => (.inl hk)))
  have HK := qa (Kept.refl w (fun k_ => P0_ k_))
  have HW0 := qa hB.size
  have HB := qa hB
  clear hB
  unfold impl_collect.del at h
  obtain ⟨t379, A30, H⟩ := Option.bind_eq_some_iff.mp h
  clear h
  have A3 := qa A30
  clear A30
  by_cases c4 : t379 = (-1)
  · rw [if_pos c4] at H
    have c4b0 : (t379 == (-1)) = true := beq_iff_eq.mpr c4
    have c4b1 : (t379 != (-1)) = false := bne_eq_false_iff_eq.mpr c4
    clear c4
    obtain rfl := Option.some.inj H
    obtain ⟨Ao5, co5, eo5⟩ := Kd.R_slice HO0.out
    subst eo5
    go_enter Tryz.func70, Tryz.ntmps70
    go_wp2_with (first | ((with_reducible refine gate_callee (f := 77) rfl ?_); refine goesL_ (some 10) rfl rfl Tryz.func77 (by kernel_rfl) rfl #[.slice Ao5 l0.length co5, .func (.func 71) #[] #[]] rfl (by (try simp only [List.map_toArray, List.map_cons, List.map_nil]); first | done | rfl | (simp only [List.length_drop, List.length_take]; rfl)) ?_; (with_reducible refine (impl_collect.index k _ _ l0 t379 _ ?side1 A3.out).mono ?_); (case side1 => repeat (first | exact (Kd.R_reads' HO0.out).2.2 | (with_reducible refine Kd.C_alloc ?_ _) | (with_reducible refine Kd.C_drewN ?_ _) | (with_reducible refine Kd.C_drew ?_))); rintro e wI ⟨rfl, hb⟩; refine ⟨_, rfl, ?_⟩; replace HO0 := qa (Kd.R_below HO0.out hb); replace HK := qa (Kept.below (S := (fun k_ => P0_ k_)) HK.out hb); replace HB := qa (below_step HB.out hb); clear hb))
    go_ret
    exact ⟨_, by first | rfl | (simp [errW_none, errW_some] <;> rfl) | (simp [*, errW_none, errW_some] <;> rfl), by (with_reducible repeat (first | apply Kd.R_alloc | apply Kd.R_drewN | apply Kd.R_drew)); exact HO0.out, by repeat (first | (with_reducible first | exact HB.out | apply below_alloc | apply pw_below_drewN | apply below_drew1) | exact HB.out)⟩
  · rw [if_neg c4] at H
    obtain ⟨⟨r1, r2⟩, H0, H9⟩ := Option.bind_eq_some_iff.mp H
    clear H
    have H := H0
    clear H0
    have HR9 := qa (Option.some.inj H9)
    clear H9
    have c4b0 : (t379 == (-1)) = false := beq_eq_false_iff_ne.mpr c4
    have c4b1 : (t379 != (-1)) = true := bne_iff_ne.mpr c4
    have H' := qa H
    clear H
    obtain ⟨Ao6, co6, eo6⟩ := Kd.R_slice HO0.out
    subst eo6
    go_enter Tryz.func70, Tryz.ntmps70
    go_wp2_with (first | ((with_reducible refine gate_callee (f := 77) rfl ?_); refine goesL_ (some 10) rfl rfl Tryz.func77 (by kernel_rfl) rfl #[.slice Ao6 l0.length co6, .func (.func 71) #[] #[]] rfl (by (try simp only [List.map_toArray, List.map_cons, List.map_nil]); first | done | rfl | (simp only [List.length_drop, List.length_take]; rfl)) ?_; (with_reducible refine (impl_collect.index k _ _ l0 t379 _ ?side1 A3.out).mono ?_); (case side1 => repeat (first | exact (Kd.R_reads' HO0.out).2.2 | (with_reducible refine Kd.C_alloc ?_ _) | (with_reducible refine Kd.C_drewN ?_ _) | (with_reducible refine Kd.C_drew ?_))); rintro e wI ⟨rfl, hb⟩; refine ⟨_, rfl, ?_⟩; replace HO0 := qa (Kd.R_below HO0.out hb); replace HK := qa (Kept.below (S := (fun k_ => P0_ k_)) HK.out hb); replace HB := qa (below_step HB.out hb); clear hb))
    go_loopg [5, 6] k (fun kq v5 v6 w' => ∃ (x0_1 : List (S62)) (x5_1 : Int) (x6_1 : Int), v5 = .int .i64 x5_1 ∧ v6 = .int .i64 x6_1 ∧ Aside0 (impl_collect.dl kq x0_1 x5_1 x6_1 = some (r1, r2)) ∧ Aside0 (kq ≤ k) ∧ Aside0 (Kd.R k62 62 w' w0.heap.size (fun k_ => (P0_ k_ ∨ w.heap.size ≤ k_)) (.slice Ao6 l0.length co6) x0_1) ∧ Aside0 (Kept w w' (fun k_ => P0_ k_)) ∧ Aside0 (Below w0.heap.size w0 w'))
    case atStart => exact ⟨(l0), (t379), (wrap64 (t379 + 1)), qf, qf, H', ⟨Nat.le_refl _⟩, ⟨by (with_reducible repeat (first | apply Kd.R_alloc | apply Kd.R_drewN | apply Kd.R_drew)); exact HO0.out⟩, ⟨by repeat (first | (with_reducible first | exact HK.out | apply Kept.alloc | apply Kept.drewN | apply Kept.drew) | exact HK.out)⟩, ⟨by repeat (first | (with_reducible first | exact HB.out | apply below_alloc | apply pw_below_drewN | apply below_drew1) | exact HB.out)⟩⟩
    case round =>
      clear H'
      try clear p2
      try clear c4
      try clear c4b0
      try clear c4b1
      try clear c5
      try clear p6
      obtain ⟨x0_1, x5_1, x6_1, rfl, rfl, HA, HK1, HO_0, HK, HB⟩ := hrel
      have hl0_1 := (Kd.R_reads' HO_0.out).1
      rw [hl0_1] at HO_0
      (try simp only [hl0_1])
      cases gk with
      | zero => exact absurd HA.out (by simp [impl_collect.dl])
      | succ k1 =>
        have H := HA.out
        clear HA
        simp only [impl_collect.dl] at H
        by_cases c7 : x6_1 < (x0_1.length : Int)
        · rw [if_pos c7] at H
          have c7b0 := decide_eq_true c7
          clear c7
          by_cases c8 : 0 ≤ x6_1
          · rw [if_pos c8] at H
            have c8b0 := decide_eq_true c8
            clear c8
            replace H := qo H
            obtain ⟨t382, A9, H⟩ := H
            replace H : (if t382 = true then (impl_collect.dl k1 x0_1 x5_1 (wrap64 (x6_1 + 1))) else (if 0 ≤ x5_1 then (if x5_1 < (x0_1.length : Int) then (impl_collect.dl k1 (x0_1.set (x5_1 : Int).toNat (⟨(rd_T62 x0_1 x6_1).f0, (rd_T62 x0_1 x6_1).f1, (rd_T62 x0_1 x6_1).f2, (rd_T62 x0_1 x6_1).f3⟩ : S62)) (wrap64 (x5_1 + 1)) (wrap64 (x6_1 + 1))) else (none)) else (none))) = some (r1, r2) := H
            by_cases c10 : t382 = true
            · subst c10
              have H1 : (impl_collect.dl k1 x0_1 x5_1 (wrap64 (x6_1 + 1))) = some (r1, r2) := by rw [if_pos rfl] at H; exact H
              clear H
              have H := H1
              clear H1
              have H' := qa H
              clear H
              have p380 : 0 ≤ (x6_1 : Int) := qd
              have q380 : x6_1 < (x0_1.length : Int) := qd
              obtain ⟨ad380, e380, hx380_0, hx380_1, hx380_2, hx380_3⟩ := at_T62 (Kd.R_reads' HO_0.out).2.2 x6_1 p380 q380
              cases e380
              replace p380 := eq_true p380
              replace q380 := eq_true q380
              go_wp2_with (first | ((with_reducible refine gate_dst (N := 7) rfl ?_); refine box_event ?hg (N := 7) ?hd (cs := #[.int .i64 0, .int .i64 0, .int .i64 0, .int .i64 0]) (t := 62) ?hr ?_; (case hd => rfl); (case hg => rfl); (case hr => first | (go_simp; done) | (go_simp; rfl)); intro gb381 hg w11 hbox hb; have n0_ := qa (Kd.R_below (Kd.R_elderB (by (with_reducible repeat (first | apply Kd.R_alloc | apply Kd.R_drewN | apply Kd.R_drew)); exact HO_0.out) gb381 (Nat.le_of_eq hg.symm)) hb); have n1_ := qa (Kept.below (S := (fun k_ => P0_ k_)) (by repeat (first | (with_reducible first | exact HK.out | apply Kept.alloc | apply Kept.drewN | apply Kept.drew) | exact HK.out)) hb); have n2_ := qa (below_step (by repeat (first | (with_reducible first | exact HB.out | apply below_alloc | apply pw_below_drewN | apply below_drew1) | exact HB.out)) hb); have n3_ := qa (hbox); have n4_ := qa ((by rw [hg]; exact (by first | exact HK.out.1 | exact (show Kept w _ (fun k_ => P0_ k_) from by repeat (first | (with_reducible first | exact HK.out | apply Kept.alloc | apply Kept.drewN | apply Kept.drew) | exact HK.out)).1) : w.heap.size ≤ gb381)); have n5_ := qa ((by rw [hg]; exact (below_size (by repeat (first | (with_reducible first | exact HB.out | apply below_alloc | apply pw_below_drewN | apply below_drew1) | exact HB.out))) : w0.heap.size ≤ gb381)); clear HO_0; clear HK; clear HB; have HO_0 := n0_; have HK := n1_; have HB := n2_; have BK381 := n3_; have GW381 := n4_; have GE381 := n5_; clear n0_ n1_ n2_ n3_ n4_ n5_; clear hb hbox hg; have hcz12_0 : w11.cell? ⟨gb381, 0, none⟩ = some (.int .i64 0) := (blk_cell BK381.out 0).trans rfl; have hcz12_1 : w11.cell? ⟨gb381, 1, none⟩ = some (.int .i64 0) := (blk_cell BK381.out 1).trans rfl; have hcz12_2 : w11.cell? ⟨gb381, 2, none⟩ = some (.int .i64 0) := (blk_cell BK381.out 2).trans rfl; have hcz12_3 : w11.cell? ⟨gb381, 3, none⟩ = some (.int .i64 0) := (blk_cell BK381.out 3).trans rfl; obtain ⟨hfz12_0, hfz12_1, hfz12_2, hfz12_3⟩ := qz4 BK381) | (go_at_call 71; refine (impl_collect.pred ((rd_T62 x0_1 x6_1).f0) ((rd_T62 x0_1 x6_1).f1) ((rd_T62 x0_1 x6_1).f2) ((rd_T62 x0_1 x6_1).f3) true _ A9.out).mono ?_; rintro e w13 ⟨rfl, hb⟩; have n0_ := qa (Kd.R_below (by (with_reducible repeat (first | apply Kd.R_alloc | apply Kd.R_drewN | apply Kd.R_drew)); exact (Kd.R_mono (Kd.R_far (p := ⟨gb381, 3, none⟩) (Kd.R_far (p := ⟨gb381, 2, none⟩) (Kd.R_far (p := ⟨gb381, 1, none⟩) (Kd.R_far (p := ⟨gb381, 0, none⟩) (Kd.R_mono HO_0.out (fun k_ hk => (⟨hk, hk.2⟩ : _ ∧ k_ ≠ gb381))) (fun _ hk => hk.2) (.int .i64 ((rd_T62 x0_1 x6_1).f0))) (fun _ hk => hk.2) (.int .i64 ((rd_T62 x0_1 x6_1).f1))) (fun _ hk => hk.2) (.int .i64 ((rd_T62 x0_1 x6_1).f2))) (fun _ hk => hk.2) (.int .i64 ((rd_T62 x0_1 x6_1).f3))) (fun _ h_ => h_.1))) hb); have n1_ := qa (blk_below (g := gb381) (o := .cells #[.int .i64 ((rd_T62 x0_1 x6_1).f0), .int .i64 ((rd_T62 x0_1 x6_1).f1), .int .i64 ((rd_T62 x0_1 x6_1).f2), .int .i64 ((rd_T62 x0_1 x6_1).f3)] 62 (0, 0)) (qs BK381) hb); have n2_ := qa (Kept.below (S := (fun k_ => P0_ k_)) (by repeat (first | (with_reducible first | exact HK.out | apply Kept.alloc | apply Kept.drewN | apply Kept.drew | refine Kept.setCell ?_ (.inr GW381.out) _) | exact HK.out)) hb); have n3_ := qa (below_step (by repeat (first | (with_reducible first | exact HB.out | apply below_alloc | apply pw_below_drewN | apply below_drew1 | refine below_set ?_ GE381.out) | exact HB.out)) hb); clear HO_0; clear BK381; clear HK; clear HB; have HO_0 := n0_; have BK381 := n1_; have HK := n2_; have HB := n3_; clear n0_ n1_ n2_ n3_; (try clear hb); (try clear hb2); (try clear hk); (try clear hi)))
              (try simp only [← hl0_1])
              go_roundg k1
              case measure => have := HK1.out; omega
              case rel => exact ⟨(x0_1), (x5_1), (wrap64 (x6_1 + 1)), qf, qf, H', ⟨by have := HK1.out; omega⟩, ⟨by (try simp only [hl0_1]); (with_reducible repeat (first | apply Kd.R_alloc | apply Kd.R_drewN | apply Kd.R_drew)); exact Kd.R_mono HO_0.out (fun _ hk => hk.1)⟩, ⟨by repeat (first | (with_reducible first | exact HK.out | apply Kept.alloc | apply Kept.drewN | apply Kept.drew | refine Kept.setCell ?_ (.inr GW381.out) _) | exact HK.out)⟩, ⟨by repeat (first | (with_reducible first | exact HB.out | apply below_alloc | apply pw_below_drewN | apply below_drew1 | refine below_set ?_ GE381.out) | exact HB.out)⟩⟩
            · replace c10 := Bool.eq_false_iff.mpr c10
              subst c10
              have H1 : (if 0 ≤ x5_1 then (if x5_1 < (x0_1.length : Int) then (impl_collect.dl k1 (x0_1.set (x5_1 : Int).toNat (⟨(rd_T62 x0_1 x6_1).f0, (rd_T62 x0_1 x6_1).f1, (rd_T62 x0_1 x6_1).f2, (rd_T62 x0_1 x6_1).f3⟩ : S62)) (wrap64 (x5_1 + 1)) (wrap64 (x6_1 + 1))) else (none)) else (none)) = some (r1, r2) := by rw [if_neg (show ¬ (false = true) by decide)] at H; exact H
              clear H
              have H := H1
              clear H1
              by_cases c14 : 0 ≤ x5_1
              · rw [if_pos c14] at H
                have c14b0 := decide_eq_true c14
                clear c14
                by_cases c15 : x5_1 < (x0_1.length : Int)
                · rw [if_pos c15] at H
                  have c15b0 := decide_eq_true c15
                  clear c15
                  obtain ⟨y383, hy383⟩ : ∃ y_ : List (S62), y_ = (x0_1.set (x5_1 : Int).toNat (⟨(rd_T62 x0_1 x6_1).f0, (rd_T62 x0_1 x6_1).f1, (rd_T62 x0_1 x6_1).f2, (rd_T62 x0_1 x6_1).f3⟩ : S62)) := ⟨_, rfl⟩
                  replace H : (impl_collect.dl k1 y383 (wrap64 (x5_1 + 1)) (wrap64 (x6_1 + 1))) = some (r1, r2) := by first | (rw [hy383]; with_reducible exact H) | (have H2_ := (Option.bind_some _ _).symm.trans H; rw [hy383]; with_reducible exact H2_) | (have H2_ := (Option.bind_some _ _).symm.trans H; with_reducible exact H2_) | with_reducible exact H | (rw [hy383]; exact H) | exact H
                  have Ny383 := qa hy383
                  clear hy383
                  have H' := qa H
                  clear H
                  have p380 : 0 ≤ (x6_1 : Int) := qd
                  have q380 : x6_1 < (x0_1.length : Int) := qd
                  obtain ⟨ad380, e380, hx380_0, hx380_1, hx380_2, hx380_3⟩ := at_T62 (Kd.R_reads' HO_0.out).2.2 x6_1 p380 q380
                  cases e380
                  replace p380 := eq_true p380
                  replace q380 := eq_true q380
                  go_wp2_with (first | ((with_reducible refine gate_dst (N := 7) rfl ?_); refine box_event ?hg (N := 7) ?hd (cs := #[.int .i64 0, .int .i64 0, .int .i64 0, .int .i64 0]) (t := 62) ?hr ?_; (case hd => rfl); (case hg => rfl); (case hr => first | (go_simp; done) | (go_simp; rfl)); intro gb381 hg w17 hbox hb; have n0_ := qa (Kd.R_below (Kd.R_elderB (by (with_reducible repeat (first | apply Kd.R_alloc | apply Kd.R_drewN | apply Kd.R_drew)); exact HO_0.out) gb381 (Nat.le_of_eq hg.symm)) hb); have n1_ := qa (Kept.below (S := (fun k_ => P0_ k_)) (by repeat (first | (with_reducible first | exact HK.out | apply Kept.alloc | apply Kept.drewN | apply Kept.drew) | exact HK.out)) hb); have n2_ := qa (below_step (by repeat (first | (with_reducible first | exact HB.out | apply below_alloc | apply pw_below_drewN | apply below_drew1) | exact HB.out)) hb); have n3_ := qa (hbox); have n4_ := qa ((by rw [hg]; exact (by first | exact HK.out.1 | exact (show Kept w _ (fun k_ => P0_ k_) from by repeat (first | (with_reducible first | exact HK.out | apply Kept.alloc | apply Kept.drewN | apply Kept.drew) | exact HK.out)).1) : w.heap.size ≤ gb381)); have n5_ := qa ((by rw [hg]; exact (below_size (by repeat (first | (with_reducible first | exact HB.out | apply below_alloc | apply pw_below_drewN | apply below_drew1) | exact HB.out))) : w0.heap.size ≤ gb381)); clear HO_0; clear HK; clear HB; have HO_0 := n0_; have HK := n1_; have HB := n2_; have BK381 := n3_; have GW381 := n4_; have GE381 := n5_; clear n0_ n1_ n2_ n3_ n4_ n5_; clear hb hbox hg; have hcz18_0 : w17.cell? ⟨gb381, 0, none⟩ = some (.int .i64 0) := (blk_cell BK381.out 0).trans rfl; have hcz18_1 : w17.cell? ⟨gb381, 1, none⟩ = some (.int .i64 0) := (blk_cell BK381.out 1).trans rfl; have hcz18_2 : w17.cell? ⟨gb381, 2, none⟩ = some (.int .i64 0) := (blk_cell BK381.out 2).trans rfl; have hcz18_3 : w17.cell? ⟨gb381, 3, none⟩ = some (.int .i64 0) := (blk_cell BK381.out 3).trans rfl; obtain ⟨hfz18_0, hfz18_1, hfz18_2, hfz18_3⟩ := qz4 BK381) | (go_at_call 71; refine (impl_collect.pred ((rd_T62 x0_1 x6_1).f0) ((rd_T62 x0_1 x6_1).f1) ((rd_T62 x0_1 x6_1).f2) ((rd_T62 x0_1 x6_1).f3) false _ A9.out).mono ?_; rintro e w19 ⟨rfl, hb⟩; have n0_ := qa (Kd.R_below (by (with_reducible repeat (first | apply Kd.R_alloc | apply Kd.R_drewN | apply Kd.R_drew)); exact (Kd.R_mono (Kd.R_far (p := ⟨gb381, 3, none⟩) (Kd.R_far (p := ⟨gb381, 2, none⟩) (Kd.R_far (p := ⟨gb381, 1, none⟩) (Kd.R_far (p := ⟨gb381, 0, none⟩) (Kd.R_mono HO_0.out (fun k_ hk => (⟨hk, hk.2⟩ : _ ∧ k_ ≠ gb381))) (fun _ hk => hk.2) (.int .i64 ((rd_T62 x0_1 x6_1).f0))) (fun _ hk => hk.2) (.int .i64 ((rd_T62 x0_1 x6_1).f1))) (fun _ hk => hk.2) (.int .i64 ((rd_T62 x0_1 x6_1).f2))) (fun _ hk => hk.2) (.int .i64 ((rd_T62 x0_1 x6_1).f3))) (fun _ h_ => h_.1))) hb); have n1_ := qa (blk_below (g := gb381) (o := .cells #[.int .i64 ((rd_T62 x0_1 x6_1).f0), .int .i64 ((rd_T62 x0_1 x6_1).f1), .int .i64 ((rd_T62 x0_1 x6_1).f2), .int .i64 ((rd_T62 x0_1 x6_1).f3)] 62 (0, 0)) (qs BK381) hb); have n2_ := qa (Kept.below (S := (fun k_ => P0_ k_)) (by repeat (first | (with_reducible first | exact HK.out | apply Kept.alloc | apply Kept.drewN | apply Kept.drew | refine Kept.setCell ?_ (.inr GW381.out) _) | exact HK.out)) hb); have n3_ := qa (below_step (by repeat (first | (with_reducible first | exact HB.out | apply below_alloc | apply pw_below_drewN | apply below_drew1 | refine below_set ?_ GE381.out) | exact HB.out)) hb); clear HO_0; clear BK381; clear HK; clear HB; have HO_0 := n0_; have BK381 := n1_; have HK := n2_; have HB := n3_; clear n0_ n1_ n2_ n3_; (try clear hb); (try clear hb2); (try clear hk); (try clear hi); have hcz20_0 : w19.cell? ⟨gb381, 0, none⟩ = some (.int .i64 ((rd_T62 x0_1 x6_1).f0)) := (blk_cell BK381.out 0).trans rfl; have hcz20_1 : w19.cell? ⟨gb381, 1, none⟩ = some (.int .i64 ((rd_T62 x0_1 x6_1).f1)) := (blk_cell BK381.out 1).trans rfl; have hcz20_2 : w19.cell? ⟨gb381, 2, none⟩ = some (.int .i64 ((rd_T62 x0_1 x6_1).f2)) := (blk_cell BK381.out 2).trans rfl; have hcz20_3 : w19.cell? ⟨gb381, 3, none⟩ = some (.int .i64 ((rd_T62 x0_1 x6_1).f3)) := (blk_cell BK381.out 3).trans rfl; obtain ⟨hfz20_0, hfz20_1, hfz20_2, hfz20_3⟩ := qz4 BK381; have p16 : 0 ≤ (x5_1 : Int) := qd; have q16 : (x5_1 : Int) < ((x0_1.length : Int) : Int) := qd; obtain ⟨go16, co16, eo16, gb16, gl16, cl16, HG16⟩ := Kd.R_form HO_0.out (by omega); (first | cases eo16 | (injection eo16 with ea_ en_ ec_; (first | subst ea_ | (injection ea_ with ea_; subst ea_)); subst ec_; clear en_)); have GB16 := qa gb16; have GG16 := qa HG16; clear gb16 gl16 HG16; have HMgo16 := qa (show (P0_ go16 ∨ w.heap.size ≤ go16) from (HO_0.out.1 _ rfl).1); (first | simp only [add_plain] at hx380_0 | skip); (first | simp only [add_plain] at hx380_1 | skip); (first | simp only [add_plain] at hx380_2 | skip); (first | simp only [add_plain] at hx380_3 | skip); obtain ⟨ce16, hcl16, hM16, hcc16, hfr16⟩ := Kd.R_elem HO_0.out z62 (x5_1 : Int) p16 q16; obtain rfl := k62_openM hM16; have hx16_0 : w19.cell? ⟨go16, (x5_1 : Int).toNat * 4, none⟩ = some (.int .i64 ((rd_T62 x0_1 x5_1).f0)) := hcc16 0 _ rfl; have hx16_1 : w19.cell? ⟨go16, (x5_1 : Int).toNat * 4 + 1, none⟩ = some (.int .i64 ((rd_T62 x0_1 x5_1).f1)) := hcc16 1 _ rfl; have hx16_2 : w19.cell? ⟨go16, (x5_1 : Int).toNat * 4 + 2, none⟩ = some (.int .i64 ((rd_T62 x0_1 x5_1).f2)) := hcc16 2 _ rfl; have hx16_3 : w19.cell? ⟨go16, (x5_1 : Int).toNat * 4 + 3, none⟩ = some (.int .i64 ((rd_T62 x0_1 x5_1).f3)) := hcc16 3 _ rfl; have hf16_0 : w19.frozen? ⟨go16, (x5_1 : Int).toNat * 4, none⟩ = false := hfr16 0; have hf16_1 : w19.frozen? ⟨go16, (x5_1 : Int).toNat * 4 + 1, none⟩ = false := hfr16 1; have hf16_2 : w19.frozen? ⟨go16, (x5_1 : Int).toNat * 4 + 2, none⟩ = false := hfr16 2; have hf16_3 : w19.frozen? ⟨go16, (x5_1 : Int).toNat * 4 + 3, none⟩ = false := hfr16 3; clear hcl16 hcc16 hfr16 hM16; replace p16 := eq_true p16; replace q16 := eq_true q16; have HX21 := qa (show Kd.R k62 62 w19 w0.heap.size (fun k_ => (P0_ k_ ∨ w.heap.size ≤ k_) ∧ k_ ≠ gb381) (.slice (some ⟨go16, 0, none⟩) x0_1.length co6) x0_1 from (by (with_reducible repeat (first | apply Kd.R_alloc | apply Kd.R_drewN | apply Kd.R_drew)); exact HO_0.out)); obtain ⟨ce21, hcl21, hM21, hcc21, hfr21⟩ := Kd.R_elem HX21.out z62 (x5_1 : Int) (qd) (by have h_ : (x5_1 : Int) < ((x0_1.length : Int) : Int) := qd; first | exact h_ | (have e_ := (Kd.R_reads' HO_0.out).1; omega) | simpa using h_); obtain rfl := k62_openM hM21; have HP21 := Kd.R_seg HX21.out (x5_1 : Int) (qd) (by have h_ : (x5_1 : Int) < ((x0_1.length : Int) : Int) := qd; first | exact h_ | (have e_ := (Kd.R_reads' HO_0.out).1; omega) | simpa using h_) (seg := [.int .i64 ((rd_T62 x0_1 x6_1).f0), .int .i64 ((rd_T62 x0_1 x6_1).f1), .int .i64 ((rd_T62 x0_1 x6_1).f2), .int .i64 ((rd_T62 x0_1 x6_1).f3)]) (j := 0) hcl21 hcc21 (show 4 ≤ 4 from by decide) (x' := (⟨(rd_T62 x0_1 x6_1).f0, (rd_T62 x0_1 x6_1).f1, (rd_T62 x0_1 x6_1).f2, (rd_T62 x0_1 x6_1).f3⟩ : S62)) (k62_mkM _ _ _ (⟨(rd_T62 x0_1 x6_1).f0, (rd_T62 x0_1 x6_1).f1, (rd_T62 x0_1 x6_1).f2, (rd_T62 x0_1 x6_1).f3⟩ : S62) ) (fun _ hk => hk); have hx21_0 := hcc21 0 _ rfl; (try simp only [show (k62).sz = 4 from rfl, Nat.mul_one, Nat.add_zero] at hx21_0); have hf21_0 := hfr21 0; (try simp only [show (k62).sz = 4 from rfl, Nat.mul_one, Nat.add_zero] at hf21_0); have hx21_1 := hcc21 1 _ rfl; (try simp only [show (k62).sz = 4 from rfl, Nat.mul_one, Nat.add_zero] at hx21_1); have hf21_1 := hfr21 1; (try simp only [show (k62).sz = 4 from rfl, Nat.mul_one, Nat.add_zero] at hf21_1); have hx21_2 := hcc21 2 _ rfl; (try simp only [show (k62).sz = 4 from rfl, Nat.mul_one, Nat.add_zero] at hx21_2); have hf21_2 := hfr21 2; (try simp only [show (k62).sz = 4 from rfl, Nat.mul_one, Nat.add_zero] at hf21_2); have hx21_3 := hcc21 3 _ rfl; (try simp only [show (k62).sz = 4 from rfl, Nat.mul_one, Nat.add_zero] at hx21_3); have hf21_3 := hfr21 3; (try simp only [show (k62).sz = 4 from rfl, Nat.mul_one, Nat.add_zero] at hf21_3); clear hcl21 hcc21 hfr21 hM21) | ((with_reducible refine gate_store (t := 62) (p := 33) rfl ?_); refine store_event (t := 62) (p := 33) (v := ?vo_w22) (w1 := ((((w19.setCell ⟨go16, (x5_1 : Int).toNat * 4, none⟩ (.int .i64 ((rd_T62 x0_1 x6_1).f0))).setCell ⟨go16, (x5_1 : Int).toNat * 4 + 1, none⟩ (.int .i64 ((rd_T62 x0_1 x6_1).f1))).setCell ⟨go16, (x5_1 : Int).toNat * 4 + 2, none⟩ (.int .i64 ((rd_T62 x0_1 x6_1).f2))).setCell ⟨go16, (x5_1 : Int).toNat * 4 + 3, none⟩ (.int .i64 ((rd_T62 x0_1 x6_1).f3)))) ?hg ?ho ?hn ?hr ?_; (case ho => rfl); (case hg => rfl); (case hn => rfl); (case hr => first | (go_simp; done) | (go_simp; rfl)); intro w22 hw; have hg : w19.grownBy w22 (some go16) := (by rw [hw]; exact HP21.2); have hp_ : Kd.R k62 62 w22 w0.heap.size (fun k_ => (P0_ k_ ∨ w.heap.size ≤ k_) ∧ k_ ≠ gb381) (.slice (some ⟨go16, 0, none⟩) x0_1.length co6) y383 := (by rw [hw, Ny383.out]; exact HP21.1); clear HP21; have n0_ := qa (hp_); have n1_ := qa (blk_grown (g := gb381) (o := .cells #[.int .i64 ((rd_T62 x0_1 x6_1).f0), .int .i64 ((rd_T62 x0_1 x6_1).f1), .int .i64 ((rd_T62 x0_1 x6_1).f2), .int .i64 ((rd_T62 x0_1 x6_1).f3)] 62 (0, 0)) (zq1 BK381) hg (Kd.R_away HO_0.out (fun _ hk => hk.2))); have n2_ := qa ((by rw [hw]; exact below_set (below_set (below_set (below_set (HB.out) GB16.out) GB16.out) GB16.out) GB16.out : Below w0.heap.size w0 w22)); have n3_ := qa (Kept.of_grown (S := (fun k_ => P0_ k_)) hg (by repeat (first | (with_reducible first | exact HK.out | apply Kept.alloc | apply Kept.drewN | apply Kept.drew | refine Kept.setCell ?_ (.inr GW381.out) _) | exact HK.out)) (fun k_ e_ => (HO_0.out.1 k_ e_).1)); clear HO_0; clear BK381; clear HB; clear HK; have HO_0 := n0_; have BK381 := n1_; have HB := n2_; have HK := n3_; clear n0_ n1_ n2_ n3_; clear hg hw hp_))
                  (try simp only [← hl0_1])
                  go_roundg k1
                  case measure => have := HK1.out; omega
                  case rel => exact ⟨(y383), (wrap64 (x5_1 + 1)), (wrap64 (x6_1 + 1)), qf, qf, H', ⟨by have := HK1.out; omega⟩, ⟨by (try simp only [hl0_1]); (with_reducible repeat (first | apply Kd.R_alloc | apply Kd.R_drewN | apply Kd.R_drew)); exact Kd.R_mono HO_0.out (fun _ hk => hk.1)⟩, ⟨by repeat (first | (with_reducible first | exact HK.out | apply Kept.alloc | apply Kept.drewN | apply Kept.drew | refine Kept.setCell ?_ (.inr GW381.out) _) | exact HK.out)⟩, ⟨by repeat (first | (with_reducible first | exact HB.out | apply below_alloc | apply pw_below_drewN | apply below_drew1 | refine below_set ?_ GE381.out) | exact HB.out)⟩⟩
                · rw [if_neg c15] at H
                  exact absurd H (by simp)
              · rw [if_neg c14] at H
                exact absurd H (by simp)
          · rw [if_neg c8] at H
            exact absurd H (by simp)
        · rw [if_neg c7] at H
          have c7b0 := decide_eq_false c7
          clear c7
          by_cases c30 : 0 ≤ x5_1
          · rw [if_pos c30] at H
            by_cases c31 : x5_1 < (x0_1.length : Int)
            · rw [if_pos c31] at H
              simp only [Option.some.injEq, Prod.mk.injEq] at H
              obtain ⟨rfl, rfl⟩ := H
              obtain ⟨go9, co9, eo9, gb9, gl9, cl9, HG9⟩ := Kd.R_form HO_0.out (by omega)
              (first | cases eo9 | (injection eo9 with ea_ en_ ec_; (first | subst ea_ | (injection ea_ with ea_; subst ea_)); subst ec_; clear en_))
              obtain ⟨i9, rfl⟩ := Int.eq_ofNat_of_zero_le c30
              have hi9 : i9 < x0_1.length := by omega
              have hcap := (Kd.R_reads' HO_0.out).2.1
              obtain ⟨W9, hcl, hr9, hb9⟩ := impl_collect.clr HO_0.out hi9
              have HR10 := qa hr9
              have HB9 := qa (hb9 _ gb9)
              have z1 : (i9 : Int) ≤ (x0_1.length : Int) := by omega
              have z2 : ((i9 : Int)).toNat = i9 := by omega
              have z3 : i9 ≠ co6 := by omega
              have z4 : (i9 : Int) ≤ (co6 : Int) := by omega
              clear hb9 hr9 HG9 gb9 gl9 c30 c31 hi9
              go_wp2
              go_ret
              refine ⟨_, by first | rfl | (simp; done) | (simp [*]; done), ?_, ?_⟩
              · have e9 := HR9.out
                simp only [Int.toNat_natCast] at e9
                rw [← e9]
                exact HR10.out
              · exact HB.out.trans HB9.out
            · rw [if_neg c31] at H; cases H
          · rw [if_neg c30] at H; cases H
def impl_collect.l0 : Nat → List (S62) → List (S62) → Int → Int → Option ((List (S62)))
  | 0, _, _, _, _ => none
  | k + 1, x4, x12, x13, x14 => if x14 < x13 then (if 0 ≤ x14 then (if x14 < (x12.length : Int) then (if (x4.length : Int) > 0 then (if 0 ≤ (wrap64 ((x4.length : Int) - 1)) then (if (wrap64 ((x4.length : Int) - 1)) < (x4.length : Int) then ((impl_compareTerms.f k ((rd_T62 x4 (wrap64 ((x4.length : Int) - 1))).f0) ((rd_T62 x4 (wrap64 ((x4.length : Int) - 1))).f1) ((rd_T62 x4 (wrap64 ((x4.length : Int) - 1))).f2) ((rd_T62 x4 (wrap64 ((x4.length : Int) - 1))).f3) ((rd_T62 x12 x14).f0) ((rd_T62 x12 x14).f1) ((rd_T62 x12 x14).f2) ((rd_T62 x12 x14).f3)).bind fun t387 => (if t387 = 0 then (impl_collect.l0 k (x4.set ((wrap64 ((x4.length : Int) - 1)) : Int).toNat (⟨wrap64 (((rd_T62 x4 (wrap64 ((x4.length : Int) - 1))).f0) + ((rd_T62 x12 x14).f0)), (rd_T62 x4 (wrap64 ((x4.length : Int) - 1))).f1, (rd_T62 x4 (wrap64 ((x4.length : Int) - 1))).f2, (rd_T62 x4 (wrap64 ((x4.length : Int) - 1))).f3⟩ : S62)) x12 x13 (wrap64 (x14 + 1))) else (if x4.length < 4398046511104 then (impl_collect.l0 k (x4 ++ [(⟨(rd_T62 x12 x14).f0, (rd_T62 x12 x14).f1, (rd_T62 x12 x14).f2, (rd_T62 x12 x14).f3⟩ : S62)]) x12 x13 (wrap64 (x14 + 1))) else (none)))) else (none)) else (none)) else (if x4.length < 4398046511104 then (impl_collect.l0 k (x4 ++ [(⟨(rd_T62 x12 x14).f0, (rd_T62 x12 x14).f1, (rd_T62 x12 x14).f2, (rd_T62 x12 x14).f3⟩ : S62)]) x12 x13 (wrap64 (x14 + 1))) else (none))) else (none)) else (none)) else (some x4)
def impl_collect.T8 : Bool × List (List Nat × List Nat) := (true, [([], []), ([0], [0]), ([1], [1]), ([2], [2]), ([2], [2]), ([4, 2], [2, 4]), ([3, 5, 2], [2, 3, 5]), ([6, 2], [2, 6]), ([2], [2]), ([7, 8, 2, 2], [2, 7, 8]), ([9, 2], [2, 9]), ([2, 10], [2, 10])])
def impl_collect.B8 : List Nat := [0, 1, 3, 7, 7, 23, 63, 127, 7, 511, 1023, 2047]
theorem impl_collect.tab8 : rtab .any (opsOf Tryz.f37 8) = impl_collect.T8 := by kernel_rfl
theorem impl_collect.bits8 : waitsOk impl_collect.T8.2 impl_collect.B8 = true := by kernel_rfl
def impl_collect.T9 : Bool × List (List Nat × List Nat) := (true, [([], []), ([], []), ([1], [1]), ([0, 2], [0, 2]), ([3], [3]), ([4], [4]), ([], []), ([6], [6]), ([5, 7], [5, 7]), ([0, 2, 0, 1, 2, 3, 4, 5, 6, 7, 8], [0, 2]), ([9, 0, 1, 2, 3, 4, 5, 6, 7, 8], [9]), ([10, 8, 0, 1, 2, 3, 4, 5, 6, 7, 8], [8, 10])])
def impl_collect.B9 : List Nat := [0, 0, 2, 7, 15, 31, 0, 64, 255, 511, 1023, 2047]
theorem impl_collect.tab9 : rtab .any (opsOf Tryz.f37 9) = impl_collect.T9 := by kernel_rfl
theorem impl_collect.bits9 : waitsOk impl_collect.T9.2 impl_collect.B9 = true := by kernel_rfl
set_option maxHeartbeats 8000000 in
set_option maxRecDepth 100000 in
theorem impl_collect.rest (k kd : Nat) (A0 : Option Addr) (c0 : Nat) (l0 r rr : List (S62)) (w : World) (hr0 : Kd.C k62 w A0 l0.length l0) (hc0 : l0.length ≤ c0) (h : impl_collect.l0 k ([] : List (S62)) l0 (l0.length : Int) 0 = some r) (hdel : impl_collect.del kd r = some rr) (nn : Nat) (hnn : nn = l0.length) {xx0 xx1 xx2 xx4 xx5 xx6 xx7 xx8 xx9 xx10 xx11 xx12 xx13 xx14 xx15 xx16 xx17 xx18 xx19 xx20 xx21 xx22 xx23 xx24 xx25 xx26 xx27 xx28 xx29 xx30 xx31 xx32 xx33 xx34 xx35 xx36 xx37 xx38 xx39 xx40 xx41 xx42 xx43 xx44 xx45 xx46 xx47 xx48 xx49 : Value} (R : Ending → World → Prop) (c : Code) (hc : c = Go.Proofs.YthanmlojikidbaaGreatStw2.sndS (Go.Proofs.YthanmlojikidbaaGreatStw2.sndS (Go.Proofs.YthanmlojikidbaaGreatStw2.sndS (Tryz.f37.body.getD Code.skip)))) (hQ : ∀ v w', Kd.R k62 62 w' w.heap.size (fun _ => True) v rr → Below w.heap.size w w' → R (.returned v) w') :
    Code.wp Tryz.prog c (bodyPost Tryz.prog Tryz.f37 R) ⟨#[xx0, xx1, xx2, .slice A0 nn c0, xx4, xx5, xx6, xx7, xx8, xx9, xx10, xx11, xx12, xx13, xx14, xx15, xx16, xx17, xx18, xx19, xx20, xx21, xx22, xx23, xx24, xx25, xx26, xx27, xx28, xx29, xx30, xx31, xx32, xx33, xx34, xx35, xx36, xx37, xx38, xx39, xx40, xx41, xx42, xx43, xx44, xx45, xx46, xx47, xx48, xx49], []⟩ w := by
  subst hnn
  have hu62 := Tryz.underlying62
  have HR0 := qa hr0
  have HC0 := qa hc0
  clear hr0 hc0
  have HB := qa (Below.refl w.heap.size w)
  have H : (impl_collect.l0 k ([] : List (S62)) l0 (l0.length : Int) 0) = some r := h
  clear h
  have H' := qa H
  clear H
  have HQ : Aside _ := hQ
  have HD := qa hdel
  clear hQ hdel
  subst hc
  simp only [Tryz.f37, Option.getD, Go.Proofs.YthanmlojikidbaaGreatStw2.sndS]
  refine Go.Proofs.YthanmlojikidbaaGreatStw2.wp_seq_stop (fun K0 hK0 => ?_)
  go_wp2
  show Code.wp _ _ _ _ _
  refine Go.Proofs.YthanmlojikidbaaGreatStw2.wp_seq_stop (fun K1 hK1 => ?_)
  go_wp2
  go_loopg [4, 14] k (fun kq v4 v14 w' => ∃ (x4_1 : List (S62)) (x14_1 : Int), v14 = .int .i64 x14_1 ∧ Aside0 (impl_collect.l0 kq x4_1 l0 (l0.length : Int) x14_1 = some r) ∧ Aside0 (kq ≤ k) ∧ Aside0 (Kd.R k62 62 w' w.heap.size (fun _ => True) v4 x4_1) ∧ Aside0 (Below w.heap.size w w'))
  case atStart => exact ⟨(([] : List (S62))), (0), qf, H', ⟨Nat.le_refl _⟩, ⟨by first | exact Kd.R_nil _ _ _ _ _ | exact Kd.N_nil _ _ _ _ _ | exact Kd.V_nil _ _ _ _ _ | exact Kd.Q_nil _ _ _ _ _ | exact Kd.S_nil _ _ _ _ _⟩, ⟨by repeat (first | (with_reducible first | exact HB.out | apply below_alloc | apply pw_below_drewN | apply below_drew1) | exact HB.out)⟩⟩
  case round =>
    clear H'
    obtain ⟨x4_1, x14_1, rfl, HA, HK1, HO_4, HB⟩ := hrel
    cases gk with
    | zero => exact absurd HA.out (by simp [impl_collect.l0])
    | succ k1 =>
      have H := HA.out
      clear HA
      simp only [impl_collect.l0] at H
      by_cases c2 : x14_1 < (l0.length : Int)
      · rw [if_pos c2] at H
        have c2b0 := decide_eq_true c2
        clear c2
        by_cases c3 : 0 ≤ x14_1
        · rw [if_pos c3] at H
          have c3b0 := decide_eq_true c3
          clear c3
          by_cases c4 : x14_1 < (l0.length : Int)
          · rw [if_pos c4] at H
            have c4b0 := decide_eq_true c4
            clear c4
            by_cases c5 : (x4_1.length : Int) > 0
            · rw [if_pos c5] at H
              have c5b0 := decide_eq_true c5
              have c5b1 : decide (0 < x4_1.length) = true := decide_eq_true (by omega)
              clear c5
              obtain ⟨ji6, hji6⟩ : ∃ j_ : Int, (wrap64 ((x4_1.length : Int) - 1)) = j_ := ⟨_, rfl⟩
              replace H : (if 0 ≤ (ji6) then (if (ji6) < (x4_1.length : Int) then ((impl_compareTerms.f k1 ((rd_T62 x4_1 (ji6)).f0) ((rd_T62 x4_1 (ji6)).f1) ((rd_T62 x4_1 (ji6)).f2) ((rd_T62 x4_1 (ji6)).f3) ((rd_T62 l0 x14_1).f0) ((rd_T62 l0 x14_1).f1) ((rd_T62 l0 x14_1).f2) ((rd_T62 l0 x14_1).f3)).bind fun t387 => (if t387 = 0 then (impl_collect.l0 k1 (x4_1.set ((ji6) : Int).toNat (⟨wrap64 (((rd_T62 x4_1 (ji6)).f0) + ((rd_T62 l0 x14_1).f0)), (rd_T62 x4_1 (ji6)).f1, (rd_T62 x4_1 (ji6)).f2, (rd_T62 x4_1 (ji6)).f3⟩ : S62)) l0 (l0.length : Int) (wrap64 (x14_1 + 1))) else (if x4_1.length < 4398046511104 then (impl_collect.l0 k1 (x4_1 ++ [(⟨(rd_T62 l0 x14_1).f0, (rd_T62 l0 x14_1).f1, (rd_T62 l0 x14_1).f2, (rd_T62 l0 x14_1).f3⟩ : S62)]) l0 (l0.length : Int) (wrap64 (x14_1 + 1))) else (none)))) else (none)) else (none)) = some r := by first | (rw [hji6] at H; exact H) | (simp only [hji6] at H ⊢; exact H)
              have hji6w : (IntKind.i64.wrap ((x4_1.length : Int) - 1)) = ji6 := (i64_w _).trans hji6
              by_cases c7 : 0 ≤ (ji6)
              · rw [if_pos c7] at H
                have c7b0 := decide_eq_true c7
                clear c7
                by_cases c8 : (ji6) < (x4_1.length : Int)
                · rw [if_pos c8] at H
                  have c8b0 := decide_eq_true c8
                  clear c8
                  replace H := qo H
                  obtain ⟨t387, A9, H⟩ := H
                  replace H : (if t387 = 0 then (impl_collect.l0 k1 (x4_1.set ((ji6) : Int).toNat (⟨wrap64 (((rd_T62 x4_1 (ji6)).f0) + ((rd_T62 l0 x14_1).f0)), (rd_T62 x4_1 (ji6)).f1, (rd_T62 x4_1 (ji6)).f2, (rd_T62 x4_1 (ji6)).f3⟩ : S62)) l0 (l0.length : Int) (wrap64 (x14_1 + 1))) else (if x4_1.length < 4398046511104 then (impl_collect.l0 k1 (x4_1 ++ [(⟨(rd_T62 l0 x14_1).f0, (rd_T62 l0 x14_1).f1, (rd_T62 l0 x14_1).f2, (rd_T62 l0 x14_1).f3⟩ : S62)]) l0 (l0.length : Int) (wrap64 (x14_1 + 1))) else (none))) = some r := H
                  by_cases c10 : t387 = 0
                  · rw [if_pos c10] at H
                    have c10b0 : (t387 == 0) = true := beq_iff_eq.mpr c10
                    have c10b1 : (t387 != 0) = false := bne_eq_false_iff_eq.mpr c10
                    clear c10
                    obtain ⟨y389, hy389⟩ : ∃ y_ : List (S62), y_ = (x4_1.set ((ji6) : Int).toNat (⟨wrap64 (((rd_T62 x4_1 (ji6)).f0) + ((rd_T62 l0 x14_1).f0)), (rd_T62 x4_1 (ji6)).f1, (rd_T62 x4_1 (ji6)).f2, (rd_T62 x4_1 (ji6)).f3⟩ : S62)) := ⟨_, rfl⟩
                    replace H : (impl_collect.l0 k1 y389 l0 (l0.length : Int) (wrap64 (x14_1 + 1))) = some r := by first | (rw [hy389]; with_reducible exact H) | (have H2_ := (Option.bind_some _ _).symm.trans H; rw [hy389]; with_reducible exact H2_) | (have H2_ := (Option.bind_some _ _).symm.trans H; with_reducible exact H2_) | with_reducible exact H | (rw [hy389]; exact H) | exact H
                    have Ny389 := qa hy389
                    clear hy389
                    have H' := qa H
                    clear H
                    have p384 : 0 ≤ (x14_1 : Int) := qd
                    have q384 : x14_1 < (l0.length : Int) := qd
                    obtain ⟨ad384, e384, hx384_0, hx384_1, hx384_2, hx384_3⟩ := at_T62 HR0.out x14_1 p384 q384
                    cases e384
                    replace hx384_0 := qb HB hx384_0
                    replace hx384_1 := qb HB hx384_1
                    replace hx384_2 := qb HB hx384_2
                    replace hx384_3 := qb HB hx384_3
                    replace p384 := eq_true p384
                    replace q384 := eq_true q384
                    try go_wp2_with (first | ((with_reducible refine gate_dst (N := 6) rfl ?_); refine box_event ?hg (N := 6) ?hd (cs := #[.int .i64 0, .int .i64 0, .int .i64 0, .int .i64 0]) (t := 62) ?hr ?_; (case hd => rfl); (case hg => rfl); (case hr => first | (go_simp; done) | (go_simp; rfl)); intro gb385 hg w12 hbox hb; have n0_ := qa (Kd.R_below (Kd.R_elderB (by (with_reducible repeat (first | apply Kd.R_alloc | apply Kd.R_drewN | apply Kd.R_drew)); exact HO_4.out) gb385 (Nat.le_of_eq hg.symm)) hb); have n1_ := qa (below_step (by repeat (first | (with_reducible first | exact HB.out | apply below_alloc | apply pw_below_drewN | apply below_drew1) | exact HB.out)) hb); have n2_ := qa (hbox); have n3_ := qa ((by rw [hg]; exact (below_size (by repeat (first | (with_reducible first | exact HB.out | apply below_alloc | apply pw_below_drewN | apply below_drew1) | exact HB.out))) : w.heap.size ≤ gb385)); have n4_ := qa ((by rw [hg]; exact (below_size (by repeat (first | (with_reducible first | exact HB.out | apply below_alloc | apply pw_below_drewN | apply below_drew1) | exact HB.out))) : w.heap.size ≤ gb385)); clear HO_4; clear HB; have HO_4 := n0_; have HB := n1_; have BK385 := n2_; have GW385 := n3_; have GE385 := n4_; clear n0_ n1_ n2_ n3_ n4_; clear hb hbox hg; have hcz13_0 : w12.cell? ⟨gb385, 0, none⟩ = some (.int .i64 0) := (blk_cell BK385.out 0).trans rfl; have hcz13_1 : w12.cell? ⟨gb385, 1, none⟩ = some (.int .i64 0) := (blk_cell BK385.out 1).trans rfl; have hcz13_2 : w12.cell? ⟨gb385, 2, none⟩ = some (.int .i64 0) := (blk_cell BK385.out 2).trans rfl; have hcz13_3 : w12.cell? ⟨gb385, 3, none⟩ = some (.int .i64 0) := (blk_cell BK385.out 3).trans rfl; obtain ⟨hfz13_0, hfz13_1, hfz13_2, hfz13_3⟩ := qz4 BK385; obtain ⟨Ao14, co14, eo14⟩ := Kd.R_slice HO_4.out; subst eo14))
                    have n0_ : Aside0 (Kd.R k62 62 ((((w12.setCell ⟨gb385, 0, none⟩ (.int .i64 ((rd_T62 l0 x14_1).f0))).setCell ⟨gb385, 1, none⟩ (.int .i64 ((rd_T62 l0 x14_1).f1))).setCell ⟨gb385, 2, none⟩ (.int .i64 ((rd_T62 l0 x14_1).f2))).setCell ⟨gb385, 3, none⟩ (.int .i64 ((rd_T62 l0 x14_1).f3))) w.heap.size (fun k_ => k_ ≠ gb385) (.slice Ao14 x4_1.length co14) x4_1) := ⟨by (with_reducible repeat (first | apply Kd.R_alloc | apply Kd.R_drewN | apply Kd.R_drew)); exact Kd.R_mono (Kd.R_far (p := ⟨gb385, 3, none⟩) (Kd.R_far (p := ⟨gb385, 2, none⟩) (Kd.R_far (p := ⟨gb385, 1, none⟩) (Kd.R_far (p := ⟨gb385, 0, none⟩) (Kd.R_mono HO_4.out (fun k_ hk => (⟨hk, hk.2⟩ : _ ∧ k_ ≠ gb385))) (fun _ hk => hk.2) (.int .i64 ((rd_T62 l0 x14_1).f0))) (fun _ hk => hk.2) (.int .i64 ((rd_T62 l0 x14_1).f1))) (fun _ hk => hk.2) (.int .i64 ((rd_T62 l0 x14_1).f2))) (fun _ hk => hk.2) (.int .i64 ((rd_T62 l0 x14_1).f3))) (fun _ hk => hk.1.2)⟩
                    have n1_ : Aside0 (((((w12.setCell ⟨gb385, 0, none⟩ (.int .i64 ((rd_T62 l0 x14_1).f0))).setCell ⟨gb385, 1, none⟩ (.int .i64 ((rd_T62 l0 x14_1).f1))).setCell ⟨gb385, 2, none⟩ (.int .i64 ((rd_T62 l0 x14_1).f2))).setCell ⟨gb385, 3, none⟩ (.int .i64 ((rd_T62 l0 x14_1).f3))).heap[gb385]? = some (.cells #[.int .i64 ((rd_T62 l0 x14_1).f0), .int .i64 ((rd_T62 l0 x14_1).f1), .int .i64 ((rd_T62 l0 x14_1).f2), .int .i64 ((rd_T62 l0 x14_1).f3)] 62 (0, 0))) := ⟨qs BK385⟩
                    have n2_ : Aside0 (Below w.heap.size w ((((w12.setCell ⟨gb385, 0, none⟩ (.int .i64 ((rd_T62 l0 x14_1).f0))).setCell ⟨gb385, 1, none⟩ (.int .i64 ((rd_T62 l0 x14_1).f1))).setCell ⟨gb385, 2, none⟩ (.int .i64 ((rd_T62 l0 x14_1).f2))).setCell ⟨gb385, 3, none⟩ (.int .i64 ((rd_T62 l0 x14_1).f3)))) := ⟨by repeat (first | (with_reducible first | exact HB.out | apply below_alloc | apply pw_below_drewN | apply below_drew1 | refine below_set ?_ GE385.out) | exact HB.out)⟩
                    (try clear HO_4)
                    (try clear BK385)
                    (try clear HB)
                    generalize ((((w12.setCell ⟨gb385, 0, none⟩ (.int .i64 ((rd_T62 l0 x14_1).f0))).setCell ⟨gb385, 1, none⟩ (.int .i64 ((rd_T62 l0 x14_1).f1))).setCell ⟨gb385, 2, none⟩ (.int .i64 ((rd_T62 l0 x14_1).f2))).setCell ⟨gb385, 3, none⟩ (.int .i64 ((rd_T62 l0 x14_1).f3))) = w15 at n0_ n1_ n2_ ⊢
                    have HO_4 := n0_
                    have BK385 := n1_
                    have HB := n2_
                    clear n0_ n1_ n2_
                    have n0_ := qa (Kd.R_drew HO_4.out)
                    have n1_ := qa (blk_drew BK385.out)
                    have n2_ := qa (below_drew1 HB.out)
                    clear HO_4
                    clear BK385
                    clear HB
                    have HO_4 := n0_
                    have BK385 := n1_
                    have HB := n2_
                    clear n0_ n1_ n2_
                    have p386 : 0 ≤ ((ji6) : Int) := qd
                    have q386 : (ji6) < (x4_1.length : Int) := qd
                    obtain ⟨ad386, e386, hx386_0, hx386_1, hx386_2, hx386_3⟩ := at_T62 (Kd.R_reads' HO_4.out).2.2 (ji6) p386 q386
                    cases e386
                    replace p386 := eq_true p386
                    replace q386 := eq_true q386
                    refine start_ (n := 12) (S := fun w' => w'.cell? ⟨gb385, 0, none⟩ = some (.int .i64 ((rd_T62 l0 x14_1).f0)) ∧ w'.cell? ⟨gb385, 1, none⟩ = some (.int .i64 ((rd_T62 l0 x14_1).f1)) ∧ w'.cell? ⟨gb385, 2, none⟩ = some (.int .i64 ((rd_T62 l0 x14_1).f2)) ∧ w'.cell? ⟨gb385, 3, none⟩ = some (.int .i64 ((rd_T62 l0 x14_1).f3)) ∧ w'.cell? (ad386.add (((ji6)).toNat * 4)) = some (.int .i64 ((rd_T62 x4_1 (ji6)).f0)) ∧ w'.cell? ⟨(ad386.add (((ji6)).toNat * 4)).block, (ad386.add (((ji6)).toNat * 4)).off + 1, none⟩ = some (.int .i64 ((rd_T62 x4_1 (ji6)).f1)) ∧ w'.cell? ⟨(ad386.add (((ji6)).toNat * 4)).block, (ad386.add (((ji6)).toNat * 4)).off + 2, none⟩ = some (.int .i64 ((rd_T62 x4_1 (ji6)).f2)) ∧ w'.cell? ⟨(ad386.add (((ji6)).toNat * 4)).block, (ad386.add (((ji6)).toNat * 4)).off + 3, none⟩ = some (.int .i64 ((rd_T62 x4_1 (ji6)).f3))) (ds := []) (bn 12 0) (by kernel_rfl) rfl rfl ⟨(blk_cell BK385.out 0).trans rfl, (blk_cell BK385.out 1).trans rfl, (blk_cell BK385.out 2).trans rfl, (blk_cell BK385.out 3).trans rfl, hx386_0, hx386_1, hx386_2, hx386_3⟩ (fun hHeld => ?_); refine with_tabW impl_collect.tab8 impl_collect.bits8 (fun HT_ HW_ => ?_)
                    generalize w15.drew = w16 at HO_4 BK385 HB hx386_0 hx386_1 hx386_2 hx386_3 hHeld ⊢
                    refine qp 0 20 12 1 HT_ ?_
                    refine qp 1 21 12 3 HT_ ?_
                    refine qp 2 22 12 7 HT_ ?_
                    refine qp 3 23 12 15 HT_ ?_
                    refine qp 4 24 12 31 HT_ ?_
                    refine qp 5 25 12 63 HT_ ?_
                    refine qp 6 26 12 127 HT_ ?_
                    refine qk 7 27 12 255 HT_ HW_ hHeld ?_
                    refine qk 8 28 12 511 HT_ HW_ hHeld ?_
                    refine one_ (i := 9) (N := some 29) (bn 12 1023) rfl rfl (one_of HT_.out (by kernel_rfl)) (by decide) (fun K hK => ?_)
                    refine goes_ Tryz.func64 (by kernel_rfl) rfl #[.agg #[.int .i64 ((rd_T62 x4_1 (ji6)).f0), .int .i64 ((rd_T62 x4_1 (ji6)).f1), .int .i64 ((rd_T62 x4_1 (ji6)).f2), .int .i64 ((rd_T62 x4_1 (ji6)).f3)], .agg #[.int .i64 ((rd_T62 l0 x14_1).f0), .int .i64 ((rd_T62 l0 x14_1).f1), .int .i64 ((rd_T62 l0 x14_1).f2), .int .i64 ((rd_T62 l0 x14_1).f3)]] (by rfl) rfl rfl (by (try simp only [List.map_toArray, List.map_cons, List.map_nil]); first | done | (simp only [hji6]; rfl) | rfl | (simp only [List.length_drop, List.length_take]; rfl)) ?_
                    with_reducible refine (impl_compareTerms.calls k1 ((rd_T62 x4_1 (ji6)).f0) ((rd_T62 x4_1 (ji6)).f1) ((rd_T62 x4_1 (ji6)).f2) ((rd_T62 x4_1 (ji6)).f3) ((rd_T62 l0 x14_1).f0) ((rd_T62 l0 x14_1).f1) ((rd_T62 l0 x14_1).f2) ((rd_T62 l0 x14_1).f3) t387 _ A9.out).mono ?_
                    rintro e w17 ⟨rfl, hb⟩
                    have HS4_ := (hb.cell (World.block_lt_of_cell? _ _ (hHeld.2.2.2.2.1))).trans (hHeld.2.2.2.2.1)
                    have HS5_ := (hb.cell (World.block_lt_of_cell? _ _ (hHeld.2.2.2.2.2.1))).trans (hHeld.2.2.2.2.2.1)
                    have HS6_ := (hb.cell (World.block_lt_of_cell? _ _ (hHeld.2.2.2.2.2.2.1))).trans (hHeld.2.2.2.2.2.2.1)
                    have HS7_ := (hb.cell (World.block_lt_of_cell? _ _ (hHeld.2.2.2.2.2.2.2))).trans (hHeld.2.2.2.2.2.2.2)
                    refine ⟨_, rfl, ?_⟩
                    have n0_ := qa (Kd.R_below (by (with_reducible repeat (first | apply Kd.R_alloc | apply Kd.R_drewN | apply Kd.R_drew)); exact HO_4.out) hb)
                    have n1_ := qa (blk_below (g := gb385) (o := .cells #[.int .i64 ((rd_T62 l0 x14_1).f0), .int .i64 ((rd_T62 l0 x14_1).f1), .int .i64 ((rd_T62 l0 x14_1).f2), .int .i64 ((rd_T62 l0 x14_1).f3)] 62 (0, 0)) (zq1 BK385) hb)
                    have n2_ := qa (below_step (by repeat (first | (with_reducible first | exact HB.out | apply below_alloc | apply pw_below_drewN | apply below_drew1 | refine below_set ?_ GE385.out) | exact HB.out)) hb)
                    clear HO_4
                    clear BK385
                    clear HB
                    have HO_4 := n0_
                    have BK385 := n1_
                    have HB := n2_
                    clear n0_ n1_ n2_
                    (try clear hb)
                    (try clear hb2)
                    (try clear hk)
                    (try clear hi)
                    refine hK.out _ _ ⟨(blk_cell BK385.out 0).trans rfl, (blk_cell BK385.out 1).trans rfl, (blk_cell BK385.out 2).trans rfl, (blk_cell BK385.out 3).trans rfl, HS4_, HS5_, HS6_, HS7_⟩ (fun hHeld => ?_)
                    clear hK K
                    refine norm_ (a' := ?_) ?_ ?_
                    rotate_left
                    · show Act.put _ (some 29) _ = _
                      simp only [Act.put, List.setIfInBounds_toArray, List.set_cons_zero, List.set_cons_succ, i64_w, i32_w]
                      rfl
                    refine qp 10 30 12 2047 HT_ ?_
                    refine qp 11 31 12 4095 HT_ ?_
                    refine done_ (done_of HT_.out (by kernel_rfl)) ?_
                    try go_wp2
                    have n0_ := qa (Kd.R_drew HO_4.out)
                    have n1_ := qa (blk_drew BK385.out)
                    have n2_ := qa (below_drew1 HB.out)
                    clear HO_4
                    clear BK385
                    clear HB
                    have HO_4 := n0_
                    have BK385 := n1_
                    have HB := n2_
                    clear n0_ n1_ n2_
                    have p388 : 0 ≤ ((ji6) : Int) := qd
                    have q388 : (ji6) < (x4_1.length : Int) := qd
                    obtain ⟨ad388, e388, hx388_0, hx388_1, hx388_2, hx388_3⟩ := at_T62 (Kd.R_reads' HO_4.out).2.2 (ji6) p388 q388
                    obtain rfl : ad386 = ad388 := (by injection e388)
                    replace p388 := eq_true p388
                    replace q388 := eq_true q388
                    have p11 : 0 ≤ ((ji6) : Int) := qd
                    have q11 : ((ji6) : Int) < ((x4_1.length : Int) : Int) := qd
                    obtain ⟨go11, co11, eo11, gb11, gl11, cl11, HG11⟩ := Kd.R_form HO_4.out (by omega)
                    (first | cases eo11 | (injection eo11 with ea_ en_ ec_; (first | subst ea_ | (injection ea_ with ea_; subst ea_)); subst ec_; clear en_))
                    have GB11 := qa gb11
                    have GG11 := qa HG11
                    clear gb11 gl11 HG11
                    (first | simp only [add_plain] at hx386_0 | skip)
                    (first | simp only [add_plain] at hx386_1 | skip)
                    (first | simp only [add_plain] at hx386_2 | skip)
                    (first | simp only [add_plain] at hx386_3 | skip)
                    (first | simp only [add_plain] at hx388_0 | skip)
                    (first | simp only [add_plain] at hx388_1 | skip)
                    (first | simp only [add_plain] at hx388_2 | skip)
                    (first | simp only [add_plain] at hx388_3 | skip)
                    obtain ⟨ce11, hcl11, hM11, hcc11, hfr11⟩ := Kd.R_elem HO_4.out z62 ((ji6) : Int) p11 q11
                    obtain rfl := k62_openM hM11
                    have hx11_0 : World.cell? _ ⟨go11, ((ji6) : Int).toNat * 4, none⟩ = some (.int .i64 ((rd_T62 x4_1 (ji6)).f0)) := hcc11 0 _ rfl
                    have hx11_1 : World.cell? _ ⟨go11, ((ji6) : Int).toNat * 4 + 1, none⟩ = some (.int .i64 ((rd_T62 x4_1 (ji6)).f1)) := hcc11 1 _ rfl
                    have hx11_2 : World.cell? _ ⟨go11, ((ji6) : Int).toNat * 4 + 2, none⟩ = some (.int .i64 ((rd_T62 x4_1 (ji6)).f2)) := hcc11 2 _ rfl
                    have hx11_3 : World.cell? _ ⟨go11, ((ji6) : Int).toNat * 4 + 3, none⟩ = some (.int .i64 ((rd_T62 x4_1 (ji6)).f3)) := hcc11 3 _ rfl
                    have hf11_0 : World.frozen? _ ⟨go11, ((ji6) : Int).toNat * 4, none⟩ = false := hfr11 0
                    have hf11_1 : World.frozen? _ ⟨go11, ((ji6) : Int).toNat * 4 + 1, none⟩ = false := hfr11 1
                    have hf11_2 : World.frozen? _ ⟨go11, ((ji6) : Int).toNat * 4 + 2, none⟩ = false := hfr11 2
                    have hf11_3 : World.frozen? _ ⟨go11, ((ji6) : Int).toNat * 4 + 3, none⟩ = false := hfr11 3
                    clear hcl11 hcc11 hfr11 hM11
                    replace p11 := eq_true p11
                    replace q11 := eq_true q11
                    obtain ⟨ce19, hcl19, hM19, hcc19, hfr19⟩ := Kd.R_elem HO_4.out z62 ((ji6) : Int) (qd) (by have h_ : ((ji6) : Int) < ((x4_1.length : Int) : Int) := qd; first | exact h_ | (have e_ := (Kd.R_reads' HO_4.out).1; omega) | simpa using h_)
                    obtain rfl := k62_openM hM19
                    have HP19 := (Kd.R_seg HO_4.out ((ji6) : Int) (qd) (by have h_ : ((ji6) : Int) < ((x4_1.length : Int) : Int) := qd; first | exact h_ | (have e_ := (Kd.R_reads' HO_4.out).1; omega) | simpa using h_) (seg := [.int .i64 (wrap64 (((rd_T62 x4_1 (ji6)).f0) + ((rd_T62 l0 x14_1).f0)))]) (j := 0) hcl19 hcc19 (show 1 ≤ 4 from by decide) (x' := (⟨wrap64 (((rd_T62 x4_1 (ji6)).f0) + ((rd_T62 l0 x14_1).f0)), (rd_T62 x4_1 (ji6)).f1, (rd_T62 x4_1 (ji6)).f2, (rd_T62 x4_1 (ji6)).f3⟩ : S62)) (k62_mkM _ _ _ (⟨wrap64 (((rd_T62 x4_1 (ji6)).f0) + ((rd_T62 l0 x14_1).f0)), (rd_T62 x4_1 (ji6)).f1, (rd_T62 x4_1 (ji6)).f2, (rd_T62 x4_1 (ji6)).f3⟩ : S62) ) (fun _ hk => hk)).1
                    rw [← Ny389.out] at HP19
                    have HQ19 := qa HP19
                    clear hcl19 hcc19 hfr19 hM19 HP19
                    refine start_ (n := 12) (S := fun w' => w'.cell? ⟨gb385, 0, none⟩ = some (.int .i64 ((rd_T62 l0 x14_1).f0)) ∧ w'.cell? ⟨gb385, 1, none⟩ = some (.int .i64 ((rd_T62 l0 x14_1).f1)) ∧ w'.cell? ⟨gb385, 2, none⟩ = some (.int .i64 ((rd_T62 l0 x14_1).f2)) ∧ w'.cell? ⟨gb385, 3, none⟩ = some (.int .i64 ((rd_T62 l0 x14_1).f3)) ∧ w'.cell? ⟨go11, ((ji6)).toNat * 4, none⟩ = some (.int .i64 ((rd_T62 x4_1 (ji6)).f0)) ∧ w'.cell? ⟨go11, ((ji6)).toNat * 4 + 1, none⟩ = some (.int .i64 ((rd_T62 x4_1 (ji6)).f1)) ∧ w'.cell? ⟨go11, ((ji6)).toNat * 4 + 2, none⟩ = some (.int .i64 ((rd_T62 x4_1 (ji6)).f2)) ∧ w'.cell? ⟨go11, ((ji6)).toNat * 4 + 3, none⟩ = some (.int .i64 ((rd_T62 x4_1 (ji6)).f3))) (ds := [11]) (bn 12 0) (by kernel_rfl) rfl rfl ⟨(blk_cell BK385.out 0).trans rfl, (blk_cell BK385.out 1).trans rfl, (blk_cell BK385.out 2).trans rfl, (blk_cell BK385.out 3).trans rfl, hx388_0, hx388_1, hx388_2, hx388_3⟩ (fun hHeld => ?_); refine with_tabW impl_collect.tab9 impl_collect.bits9 (fun HT_ HW_ => ?_)
                    generalize w17.drew = w18 at HO_4 BK385 HB GG11 HQ19 hf11_0 hf11_1 hf11_2 hf11_3 hx11_0 hx11_1 hx11_2 hx11_3 hx386_0 hx386_1 hx386_2 hx386_3 hx388_0 hx388_1 hx388_2 hx388_3 hHeld ⊢
                    refine qp 0 32 12 1 HT_ ?_
                    refine qp 1 33 12 3 HT_ ?_
                    refine qp 2 34 12 7 HT_ ?_
                    refine qp 3 35 12 15 HT_ ?_
                    refine qp 4 36 12 31 HT_ ?_
                    refine qp 6 38 12 95 HT_ ?_
                    refine qk 5 37 12 127 HT_ HW_ hHeld ?_
                    refine qk 7 39 12 255 HT_ HW_ hHeld ?_
                    refine qp 8 40 12 511 HT_ ?_
                    refine qp 9 41 12 1023 HT_ ?_
                    refine qp 10 42 12 2047 HT_ ?_
                    refine last_ (i := 11) (N := none) #[true, true, true, true, true, true, true, true, true, true, true, true] rfl rfl (one_of HT_.out (by kernel_rfl)) (by decide) (fun K hK => ?_)
                    refine skip_ (w1 := ?_) (by rfl) rfl ?_ ?_
                    rotate_left
                    · go_simp
                      rfl
                    refine hK.out _ _ ?_
                    clear hK K
                    refine done_ (done_of HT_.out (by kernel_rfl)) ?_
                    try go_wp2
                    go_roundg k1
                    case measure => have := HK1.out; omega
                    case rel => exact ⟨(y389), (wrap64 (x14_1 + 1)), qf, H', ⟨by have := HK1.out; omega⟩, ⟨by (with_reducible repeat (first | apply Kd.R_alloc | apply Kd.R_drewN | apply Kd.R_drew)); exact Kd.R_mono HQ19.out (fun _ hk => trivial)⟩, ⟨by repeat (first | (with_reducible first | exact HB.out | apply below_alloc | apply pw_below_drewN | apply below_drew1 | refine below_set ?_ GB11.out | refine below_set ?_ GE385.out) | exact HB.out)⟩⟩
                  · rw [if_neg c10] at H
                    have c10b0 : (t387 == 0) = false := beq_eq_false_iff_ne.mpr c10
                    have c10b1 : (t387 != 0) = true := bne_iff_ne.mpr c10
                    by_cases c20 : x4_1.length < 4398046511104
                    · rw [if_pos c20] at H
                      have LMc20 := qa c20
                      clear c20
                      obtain ⟨y390, hy390⟩ : ∃ y_ : List (S62), y_ = (x4_1 ++ [(⟨(rd_T62 l0 x14_1).f0, (rd_T62 l0 x14_1).f1, (rd_T62 l0 x14_1).f2, (rd_T62 l0 x14_1).f3⟩ : S62)]) := ⟨_, rfl⟩
                      replace H : (impl_collect.l0 k1 y390 l0 (l0.length : Int) (wrap64 (x14_1 + 1))) = some r := by first | (rw [hy390]; with_reducible exact H) | (have H2_ := (Option.bind_some _ _).symm.trans H; rw [hy390]; with_reducible exact H2_) | (have H2_ := (Option.bind_some _ _).symm.trans H; with_reducible exact H2_) | with_reducible exact H | (rw [hy390]; exact H) | exact H
                      have Ny390 := qa hy390
                      clear hy390
                      have H' := qa H
                      clear H
                      have p384 : 0 ≤ (x14_1 : Int) := qd
                      have q384 : x14_1 < (l0.length : Int) := qd
                      obtain ⟨ad384, e384, hx384_0, hx384_1, hx384_2, hx384_3⟩ := at_T62 HR0.out x14_1 p384 q384
                      cases e384
                      replace hx384_0 := qb HB hx384_0
                      replace hx384_1 := qb HB hx384_1
                      replace hx384_2 := qb HB hx384_2
                      replace hx384_3 := qb HB hx384_3
                      replace p384 := eq_true p384
                      replace q384 := eq_true q384
                      try go_wp2_with (first | ((with_reducible refine gate_dst (N := 6) rfl ?_); refine box_event ?hg (N := 6) ?hd (cs := #[.int .i64 0, .int .i64 0, .int .i64 0, .int .i64 0]) (t := 62) ?hr ?_; (case hd => rfl); (case hg => rfl); (case hr => first | (go_simp; done) | (go_simp; rfl)); intro gb385 hg w21 hbox hb; have n0_ := qa (Kd.R_below (Kd.R_elderB (by (with_reducible repeat (first | apply Kd.R_alloc | apply Kd.R_drewN | apply Kd.R_drew)); exact HO_4.out) gb385 (Nat.le_of_eq hg.symm)) hb); have n1_ := qa (below_step (by repeat (first | (with_reducible first | exact HB.out | apply below_alloc | apply pw_below_drewN | apply below_drew1) | exact HB.out)) hb); have n2_ := qa (hbox); have n3_ := qa ((by rw [hg]; exact (below_size (by repeat (first | (with_reducible first | exact HB.out | apply below_alloc | apply pw_below_drewN | apply below_drew1) | exact HB.out))) : w.heap.size ≤ gb385)); have n4_ := qa ((by rw [hg]; exact (below_size (by repeat (first | (with_reducible first | exact HB.out | apply below_alloc | apply pw_below_drewN | apply below_drew1) | exact HB.out))) : w.heap.size ≤ gb385)); clear HO_4; clear HB; have HO_4 := n0_; have HB := n1_; have BK385 := n2_; have GW385 := n3_; have GE385 := n4_; clear n0_ n1_ n2_ n3_ n4_; clear hb hbox hg; have hcz22_0 : w21.cell? ⟨gb385, 0, none⟩ = some (.int .i64 0) := (blk_cell BK385.out 0).trans rfl; have hcz22_1 : w21.cell? ⟨gb385, 1, none⟩ = some (.int .i64 0) := (blk_cell BK385.out 1).trans rfl; have hcz22_2 : w21.cell? ⟨gb385, 2, none⟩ = some (.int .i64 0) := (blk_cell BK385.out 2).trans rfl; have hcz22_3 : w21.cell? ⟨gb385, 3, none⟩ = some (.int .i64 0) := (blk_cell BK385.out 3).trans rfl; obtain ⟨hfz22_0, hfz22_1, hfz22_2, hfz22_3⟩ := qz4 BK385; obtain ⟨Ao23, co23, eo23⟩ := Kd.R_slice HO_4.out; subst eo23))
                      have n0_ : Aside0 (Kd.R k62 62 ((((w21.setCell ⟨gb385, 0, none⟩ (.int .i64 ((rd_T62 l0 x14_1).f0))).setCell ⟨gb385, 1, none⟩ (.int .i64 ((rd_T62 l0 x14_1).f1))).setCell ⟨gb385, 2, none⟩ (.int .i64 ((rd_T62 l0 x14_1).f2))).setCell ⟨gb385, 3, none⟩ (.int .i64 ((rd_T62 l0 x14_1).f3))) w.heap.size (fun k_ => k_ ≠ gb385) (.slice Ao23 x4_1.length co23) x4_1) := ⟨by (with_reducible repeat (first | apply Kd.R_alloc | apply Kd.R_drewN | apply Kd.R_drew)); exact Kd.R_mono (Kd.R_far (p := ⟨gb385, 3, none⟩) (Kd.R_far (p := ⟨gb385, 2, none⟩) (Kd.R_far (p := ⟨gb385, 1, none⟩) (Kd.R_far (p := ⟨gb385, 0, none⟩) (Kd.R_mono HO_4.out (fun k_ hk => (⟨hk, hk.2⟩ : _ ∧ k_ ≠ gb385))) (fun _ hk => hk.2) (.int .i64 ((rd_T62 l0 x14_1).f0))) (fun _ hk => hk.2) (.int .i64 ((rd_T62 l0 x14_1).f1))) (fun _ hk => hk.2) (.int .i64 ((rd_T62 l0 x14_1).f2))) (fun _ hk => hk.2) (.int .i64 ((rd_T62 l0 x14_1).f3))) (fun _ hk => hk.1.2)⟩
                      have n1_ : Aside0 (((((w21.setCell ⟨gb385, 0, none⟩ (.int .i64 ((rd_T62 l0 x14_1).f0))).setCell ⟨gb385, 1, none⟩ (.int .i64 ((rd_T62 l0 x14_1).f1))).setCell ⟨gb385, 2, none⟩ (.int .i64 ((rd_T62 l0 x14_1).f2))).setCell ⟨gb385, 3, none⟩ (.int .i64 ((rd_T62 l0 x14_1).f3))).heap[gb385]? = some (.cells #[.int .i64 ((rd_T62 l0 x14_1).f0), .int .i64 ((rd_T62 l0 x14_1).f1), .int .i64 ((rd_T62 l0 x14_1).f2), .int .i64 ((rd_T62 l0 x14_1).f3)] 62 (0, 0))) := ⟨qs BK385⟩
                      have n2_ : Aside0 (Below w.heap.size w ((((w21.setCell ⟨gb385, 0, none⟩ (.int .i64 ((rd_T62 l0 x14_1).f0))).setCell ⟨gb385, 1, none⟩ (.int .i64 ((rd_T62 l0 x14_1).f1))).setCell ⟨gb385, 2, none⟩ (.int .i64 ((rd_T62 l0 x14_1).f2))).setCell ⟨gb385, 3, none⟩ (.int .i64 ((rd_T62 l0 x14_1).f3)))) := ⟨by repeat (first | (with_reducible first | exact HB.out | apply below_alloc | apply pw_below_drewN | apply below_drew1 | refine below_set ?_ GE385.out) | exact HB.out)⟩
                      (try clear HO_4)
                      (try clear BK385)
                      (try clear HB)
                      generalize ((((w21.setCell ⟨gb385, 0, none⟩ (.int .i64 ((rd_T62 l0 x14_1).f0))).setCell ⟨gb385, 1, none⟩ (.int .i64 ((rd_T62 l0 x14_1).f1))).setCell ⟨gb385, 2, none⟩ (.int .i64 ((rd_T62 l0 x14_1).f2))).setCell ⟨gb385, 3, none⟩ (.int .i64 ((rd_T62 l0 x14_1).f3))) = w24 at n0_ n1_ n2_ ⊢
                      have HO_4 := n0_
                      have BK385 := n1_
                      have HB := n2_
                      clear n0_ n1_ n2_
                      have n0_ := qa (Kd.R_drew HO_4.out)
                      have n1_ := qa (blk_drew BK385.out)
                      have n2_ := qa (below_drew1 HB.out)
                      clear HO_4
                      clear BK385
                      clear HB
                      have HO_4 := n0_
                      have BK385 := n1_
                      have HB := n2_
                      clear n0_ n1_ n2_
                      have p386 : 0 ≤ ((ji6) : Int) := qd
                      have q386 : (ji6) < (x4_1.length : Int) := qd
                      obtain ⟨ad386, e386, hx386_0, hx386_1, hx386_2, hx386_3⟩ := at_T62 (Kd.R_reads' HO_4.out).2.2 (ji6) p386 q386
                      cases e386
                      replace p386 := eq_true p386
                      replace q386 := eq_true q386
                      refine start_ (n := 12) (S := fun w' => w'.cell? ⟨gb385, 0, none⟩ = some (.int .i64 ((rd_T62 l0 x14_1).f0)) ∧ w'.cell? ⟨gb385, 1, none⟩ = some (.int .i64 ((rd_T62 l0 x14_1).f1)) ∧ w'.cell? ⟨gb385, 2, none⟩ = some (.int .i64 ((rd_T62 l0 x14_1).f2)) ∧ w'.cell? ⟨gb385, 3, none⟩ = some (.int .i64 ((rd_T62 l0 x14_1).f3)) ∧ w'.cell? (ad386.add (((ji6)).toNat * 4)) = some (.int .i64 ((rd_T62 x4_1 (ji6)).f0)) ∧ w'.cell? ⟨(ad386.add (((ji6)).toNat * 4)).block, (ad386.add (((ji6)).toNat * 4)).off + 1, none⟩ = some (.int .i64 ((rd_T62 x4_1 (ji6)).f1)) ∧ w'.cell? ⟨(ad386.add (((ji6)).toNat * 4)).block, (ad386.add (((ji6)).toNat * 4)).off + 2, none⟩ = some (.int .i64 ((rd_T62 x4_1 (ji6)).f2)) ∧ w'.cell? ⟨(ad386.add (((ji6)).toNat * 4)).block, (ad386.add (((ji6)).toNat * 4)).off + 3, none⟩ = some (.int .i64 ((rd_T62 x4_1 (ji6)).f3))) (ds := []) (bn 12 0) (by kernel_rfl) rfl rfl ⟨(blk_cell BK385.out 0).trans rfl, (blk_cell BK385.out 1).trans rfl, (blk_cell BK385.out 2).trans rfl, (blk_cell BK385.out 3).trans rfl, hx386_0, hx386_1, hx386_2, hx386_3⟩ (fun hHeld => ?_); refine with_tabW impl_collect.tab8 impl_collect.bits8 (fun HT_ HW_ => ?_)
                      generalize w24.drew = w25 at HO_4 BK385 HB hx386_0 hx386_1 hx386_2 hx386_3 hHeld ⊢
                      refine qp 0 20 12 1 HT_ ?_
                      refine qp 1 21 12 3 HT_ ?_
                      refine qp 2 22 12 7 HT_ ?_
                      refine qp 3 23 12 15 HT_ ?_
                      refine qp 4 24 12 31 HT_ ?_
                      refine qp 5 25 12 63 HT_ ?_
                      refine qp 6 26 12 127 HT_ ?_
                      refine qk 7 27 12 255 HT_ HW_ hHeld ?_
                      refine qk 8 28 12 511 HT_ HW_ hHeld ?_
                      refine one_ (i := 9) (N := some 29) (bn 12 1023) rfl rfl (one_of HT_.out (by kernel_rfl)) (by decide) (fun K hK => ?_)
                      refine goes_ Tryz.func64 (by kernel_rfl) rfl #[.agg #[.int .i64 ((rd_T62 x4_1 (ji6)).f0), .int .i64 ((rd_T62 x4_1 (ji6)).f1), .int .i64 ((rd_T62 x4_1 (ji6)).f2), .int .i64 ((rd_T62 x4_1 (ji6)).f3)], .agg #[.int .i64 ((rd_T62 l0 x14_1).f0), .int .i64 ((rd_T62 l0 x14_1).f1), .int .i64 ((rd_T62 l0 x14_1).f2), .int .i64 ((rd_T62 l0 x14_1).f3)]] (by rfl) rfl rfl (by (try simp only [List.map_toArray, List.map_cons, List.map_nil]); first | done | (simp only [hji6]; rfl) | rfl | (simp only [List.length_drop, List.length_take]; rfl)) ?_
                      with_reducible refine (impl_compareTerms.calls k1 ((rd_T62 x4_1 (ji6)).f0) ((rd_T62 x4_1 (ji6)).f1) ((rd_T62 x4_1 (ji6)).f2) ((rd_T62 x4_1 (ji6)).f3) ((rd_T62 l0 x14_1).f0) ((rd_T62 l0 x14_1).f1) ((rd_T62 l0 x14_1).f2) ((rd_T62 l0 x14_1).f3) t387 _ A9.out).mono ?_
                      rintro e w26 ⟨rfl, hb⟩
                      have HS4_ := (hb.cell (World.block_lt_of_cell? _ _ (hHeld.2.2.2.2.1))).trans (hHeld.2.2.2.2.1)
                      have HS5_ := (hb.cell (World.block_lt_of_cell? _ _ (hHeld.2.2.2.2.2.1))).trans (hHeld.2.2.2.2.2.1)
                      have HS6_ := (hb.cell (World.block_lt_of_cell? _ _ (hHeld.2.2.2.2.2.2.1))).trans (hHeld.2.2.2.2.2.2.1)
                      have HS7_ := (hb.cell (World.block_lt_of_cell? _ _ (hHeld.2.2.2.2.2.2.2))).trans (hHeld.2.2.2.2.2.2.2)
                      refine ⟨_, rfl, ?_⟩
                      have n0_ := qa (Kd.R_below (by (with_reducible repeat (first | apply Kd.R_alloc | apply Kd.R_drewN | apply Kd.R_drew)); exact HO_4.out) hb)
                      have n1_ := qa (blk_below (g := gb385) (o := .cells #[.int .i64 ((rd_T62 l0 x14_1).f0), .int .i64 ((rd_T62 l0 x14_1).f1), .int .i64 ((rd_T62 l0 x14_1).f2), .int .i64 ((rd_T62 l0 x14_1).f3)] 62 (0, 0)) (zq1 BK385) hb)
                      have n2_ := qa (below_step (by repeat (first | (with_reducible first | exact HB.out | apply below_alloc | apply pw_below_drewN | apply below_drew1 | refine below_set ?_ GE385.out) | exact HB.out)) hb)
                      clear HO_4
                      clear BK385
                      clear HB
                      have HO_4 := n0_
                      have BK385 := n1_
                      have HB := n2_
                      clear n0_ n1_ n2_
                      (try clear hb)
                      (try clear hb2)
                      (try clear hk)
                      (try clear hi)
                      refine hK.out _ _ ⟨(blk_cell BK385.out 0).trans rfl, (blk_cell BK385.out 1).trans rfl, (blk_cell BK385.out 2).trans rfl, (blk_cell BK385.out 3).trans rfl, HS4_, HS5_, HS6_, HS7_⟩ (fun hHeld => ?_)
                      clear hK K
                      refine norm_ (a' := ?_) ?_ ?_
                      rotate_left
                      · show Act.put _ (some 29) _ = _
                        simp only [Act.put, List.setIfInBounds_toArray, List.set_cons_zero, List.set_cons_succ, i64_w, i32_w]
                        rfl
                      refine qp 10 30 12 2047 HT_ ?_
                      refine qp 11 31 12 4095 HT_ ?_
                      refine done_ (done_of HT_.out (by kernel_rfl)) ?_
                      have hcz27_0 : w26.cell? ⟨gb385, 0, none⟩ = some (.int .i64 ((rd_T62 l0 x14_1).f0)) := (blk_cell BK385.out 0).trans rfl
                      have hcz27_1 : w26.cell? ⟨gb385, 1, none⟩ = some (.int .i64 ((rd_T62 l0 x14_1).f1)) := (blk_cell BK385.out 1).trans rfl
                      have hcz27_2 : w26.cell? ⟨gb385, 2, none⟩ = some (.int .i64 ((rd_T62 l0 x14_1).f2)) := (blk_cell BK385.out 2).trans rfl
                      have hcz27_3 : w26.cell? ⟨gb385, 3, none⟩ = some (.int .i64 ((rd_T62 l0 x14_1).f3)) := (blk_cell BK385.out 3).trans rfl
                      have hfz27_0 := blk_frozen BK385.out 0
                      have hfz27_1 := blk_frozen BK385.out 1
                      have hfz27_2 := blk_frozen BK385.out 2
                      have hfz27_3 := blk_frozen BK385.out 3
                      try go_wp2_with (first | ((with_reducible refine gate_builtin (b := .append) (xs := #[.tmp 43, .tmp 45]) rfl ?_); at_builtin; refine Kd.R_append k62 (w0 := w) w.heap.size rfl (.tmp 43) (.tmp 45) 24 62 (.agg #[(.int .i64 0), (.int .i64 0), (.int .i64 0), (.int .i64 0)]) 32 rfl Tryz.underlying24 info62 rfl (by decide) (by omega) (.slice (some ad386) x4_1.length co23) x4_1 (⟨(rd_T62 l0 x14_1).f0, (rd_T62 l0 x14_1).f1, (rd_T62 l0 x14_1).f2, (rd_T62 l0 x14_1).f3⟩ : S62) [.int .i64 ((rd_T62 l0 x14_1).f0), .int .i64 ((rd_T62 l0 x14_1).f1), .int .i64 ((rd_T62 l0 x14_1).f2), .int .i64 ((rd_T62 l0 x14_1).f3)] (fun k_ => k_ ≠ gb385) (fun _ => False) rfl rfl ?aP (fun _ hk => hk.elim) ?aF ?aO ?aB ?aS ?aL ?_; (case aP => exact k62_mkM _ _ _ (⟨(rd_T62 l0 x14_1).f0, (rd_T62 l0 x14_1).f1, (rd_T62 l0 x14_1).f2, (rd_T62 l0 x14_1).f3⟩ : S62)); (case aB => exact (by repeat (first | (with_reducible first | exact HB.out | apply below_alloc | apply pw_below_drewN | apply below_drew1 | refine below_set ?_ GE385.out) | exact HB.out))); (case aF => exact (fun k_ hk => Kd.freshB (g := gb385) (o := .cells #[.int .i64 ((rd_T62 l0 x14_1).f0), .int .i64 ((rd_T62 l0 x14_1).f1), .int .i64 ((rd_T62 l0 x14_1).f2), .int .i64 ((rd_T62 l0 x14_1).f3)] 62 (0, 0)) (zq1 BK385) k_ hk)); (case aO => exact (by (with_reducible repeat (first | apply Kd.R_alloc | apply Kd.R_drewN | apply Kd.R_drew)); exact HO_4.out)); (case aS => exact (below_size (by repeat (first | (with_reducible first | exact HB.out | apply below_alloc | apply pw_below_drewN | apply below_drew1 | refine below_set ?_ GE385.out) | exact HB.out)))); (case aL => have := LMc20.out; omega); intro v391 w28 ho hb hg hat; rw [← Ny390.out] at ho; have n0_ := qa (blk_grown (g := gb385) (o := .cells #[.int .i64 ((rd_T62 l0 x14_1).f0), .int .i64 ((rd_T62 l0 x14_1).f1), .int .i64 ((rd_T62 l0 x14_1).f2), .int .i64 ((rd_T62 l0 x14_1).f3)] 62 (0, 0)) (zq1 BK385) hg (Kd.R_away HO_4.out (fun _ hk => hk))); have n1_ := qa (hb); have n2_ := qa (ho); clear BK385; clear HB; clear HO_4; have BK385 := n0_; have HB := n1_; have HO392 := n2_; clear n0_ n1_ n2_; clear ho hb hg hat))
                      go_roundg k1
                      case measure => have := HK1.out; omega
                      case rel => exact ⟨(y390), (wrap64 (x14_1 + 1)), qf, H', ⟨by have := HK1.out; omega⟩, ⟨by (with_reducible repeat (first | apply Kd.R_alloc | apply Kd.R_drewN | apply Kd.R_drew)); exact Kd.R_mono HO392.out (fun _ hk => trivial)⟩, ⟨by repeat (first | (with_reducible first | exact HB.out | apply below_alloc | apply pw_below_drewN | apply below_drew1 | refine below_set ?_ GE385.out) | exact HB.out)⟩⟩
                    · rw [if_neg c20] at H
                      exact absurd H (by simp)
                · rw [if_neg c8] at H
                  exact absurd H (by simp)
              · rw [if_neg c7] at H
                exact absurd H (by simp)
            · rw [if_neg c5] at H
              have c5b0 := decide_eq_false c5
              have c5b1 : decide (0 < x4_1.length) = false := decide_eq_false (by omega)
              clear c5
              by_cases c29 : x4_1.length < 4398046511104
              · rw [if_pos c29] at H
                have LMc29 := qa c29
                clear c29
                obtain ⟨y393, hy393⟩ : ∃ y_ : List (S62), y_ = (x4_1 ++ [(⟨(rd_T62 l0 x14_1).f0, (rd_T62 l0 x14_1).f1, (rd_T62 l0 x14_1).f2, (rd_T62 l0 x14_1).f3⟩ : S62)]) := ⟨_, rfl⟩
                replace H : (impl_collect.l0 k1 y393 l0 (l0.length : Int) (wrap64 (x14_1 + 1))) = some r := by first | (rw [hy393]; with_reducible exact H) | (have H2_ := (Option.bind_some _ _).symm.trans H; rw [hy393]; with_reducible exact H2_) | (have H2_ := (Option.bind_some _ _).symm.trans H; with_reducible exact H2_) | with_reducible exact H | (rw [hy393]; exact H) | exact H
                have Ny393 := qa hy393
                clear hy393
                have H' := qa H
                clear H
                have p384 : 0 ≤ (x14_1 : Int) := qd
                have q384 : x14_1 < (l0.length : Int) := qd
                obtain ⟨ad384, e384, hx384_0, hx384_1, hx384_2, hx384_3⟩ := at_T62 HR0.out x14_1 p384 q384
                cases e384
                replace hx384_0 := qb HB hx384_0
                replace hx384_1 := qb HB hx384_1
                replace hx384_2 := qb HB hx384_2
                replace hx384_3 := qb HB hx384_3
                replace p384 := eq_true p384
                replace q384 := eq_true q384
                try go_wp2_with (first | ((with_reducible refine gate_dst (N := 6) rfl ?_); refine box_event ?hg (N := 6) ?hd (cs := #[.int .i64 0, .int .i64 0, .int .i64 0, .int .i64 0]) (t := 62) ?hr ?_; (case hd => rfl); (case hg => rfl); (case hr => first | (go_simp; done) | (go_simp; rfl)); intro gb385 hg w30 hbox hb; have n0_ := qa (Kd.R_below (Kd.R_elderB (by (with_reducible repeat (first | apply Kd.R_alloc | apply Kd.R_drewN | apply Kd.R_drew)); exact HO_4.out) gb385 (Nat.le_of_eq hg.symm)) hb); have n1_ := qa (below_step (by repeat (first | (with_reducible first | exact HB.out | apply below_alloc | apply pw_below_drewN | apply below_drew1) | exact HB.out)) hb); have n2_ := qa (hbox); have n3_ := qa ((by rw [hg]; exact (below_size (by repeat (first | (with_reducible first | exact HB.out | apply below_alloc | apply pw_below_drewN | apply below_drew1) | exact HB.out))) : w.heap.size ≤ gb385)); have n4_ := qa ((by rw [hg]; exact (below_size (by repeat (first | (with_reducible first | exact HB.out | apply below_alloc | apply pw_below_drewN | apply below_drew1) | exact HB.out))) : w.heap.size ≤ gb385)); clear HO_4; clear HB; have HO_4 := n0_; have HB := n1_; have BK385 := n2_; have GW385 := n3_; have GE385 := n4_; clear n0_ n1_ n2_ n3_ n4_; clear hb hbox hg; have hcz31_0 : w30.cell? ⟨gb385, 0, none⟩ = some (.int .i64 0) := (blk_cell BK385.out 0).trans rfl; have hcz31_1 : w30.cell? ⟨gb385, 1, none⟩ = some (.int .i64 0) := (blk_cell BK385.out 1).trans rfl; have hcz31_2 : w30.cell? ⟨gb385, 2, none⟩ = some (.int .i64 0) := (blk_cell BK385.out 2).trans rfl; have hcz31_3 : w30.cell? ⟨gb385, 3, none⟩ = some (.int .i64 0) := (blk_cell BK385.out 3).trans rfl; obtain ⟨hfz31_0, hfz31_1, hfz31_2, hfz31_3⟩ := qz4 BK385; obtain ⟨Ao32, co32, eo32⟩ := Kd.R_slice HO_4.out; subst eo32))
                have n0_ : Aside0 (Kd.R k62 62 ((((w30.setCell ⟨gb385, 0, none⟩ (.int .i64 ((rd_T62 l0 x14_1).f0))).setCell ⟨gb385, 1, none⟩ (.int .i64 ((rd_T62 l0 x14_1).f1))).setCell ⟨gb385, 2, none⟩ (.int .i64 ((rd_T62 l0 x14_1).f2))).setCell ⟨gb385, 3, none⟩ (.int .i64 ((rd_T62 l0 x14_1).f3))) w.heap.size (fun k_ => k_ ≠ gb385) (.slice Ao32 x4_1.length co32) x4_1) := ⟨by (with_reducible repeat (first | apply Kd.R_alloc | apply Kd.R_drewN | apply Kd.R_drew)); exact Kd.R_mono (Kd.R_far (p := ⟨gb385, 3, none⟩) (Kd.R_far (p := ⟨gb385, 2, none⟩) (Kd.R_far (p := ⟨gb385, 1, none⟩) (Kd.R_far (p := ⟨gb385, 0, none⟩) (Kd.R_mono HO_4.out (fun k_ hk => (⟨hk, hk.2⟩ : _ ∧ k_ ≠ gb385))) (fun _ hk => hk.2) (.int .i64 ((rd_T62 l0 x14_1).f0))) (fun _ hk => hk.2) (.int .i64 ((rd_T62 l0 x14_1).f1))) (fun _ hk => hk.2) (.int .i64 ((rd_T62 l0 x14_1).f2))) (fun _ hk => hk.2) (.int .i64 ((rd_T62 l0 x14_1).f3))) (fun _ hk => hk.1.2)⟩
                have n1_ : Aside0 (((((w30.setCell ⟨gb385, 0, none⟩ (.int .i64 ((rd_T62 l0 x14_1).f0))).setCell ⟨gb385, 1, none⟩ (.int .i64 ((rd_T62 l0 x14_1).f1))).setCell ⟨gb385, 2, none⟩ (.int .i64 ((rd_T62 l0 x14_1).f2))).setCell ⟨gb385, 3, none⟩ (.int .i64 ((rd_T62 l0 x14_1).f3))).heap[gb385]? = some (.cells #[.int .i64 ((rd_T62 l0 x14_1).f0), .int .i64 ((rd_T62 l0 x14_1).f1), .int .i64 ((rd_T62 l0 x14_1).f2), .int .i64 ((rd_T62 l0 x14_1).f3)] 62 (0, 0))) := ⟨qs BK385⟩
                have n2_ : Aside0 (Below w.heap.size w ((((w30.setCell ⟨gb385, 0, none⟩ (.int .i64 ((rd_T62 l0 x14_1).f0))).setCell ⟨gb385, 1, none⟩ (.int .i64 ((rd_T62 l0 x14_1).f1))).setCell ⟨gb385, 2, none⟩ (.int .i64 ((rd_T62 l0 x14_1).f2))).setCell ⟨gb385, 3, none⟩ (.int .i64 ((rd_T62 l0 x14_1).f3)))) := ⟨by repeat (first | (with_reducible first | exact HB.out | apply below_alloc | apply pw_below_drewN | apply below_drew1 | refine below_set ?_ GE385.out) | exact HB.out)⟩
                (try clear HO_4)
                (try clear BK385)
                (try clear HB)
                generalize ((((w30.setCell ⟨gb385, 0, none⟩ (.int .i64 ((rd_T62 l0 x14_1).f0))).setCell ⟨gb385, 1, none⟩ (.int .i64 ((rd_T62 l0 x14_1).f1))).setCell ⟨gb385, 2, none⟩ (.int .i64 ((rd_T62 l0 x14_1).f2))).setCell ⟨gb385, 3, none⟩ (.int .i64 ((rd_T62 l0 x14_1).f3))) = w33 at n0_ n1_ n2_ ⊢
                have HO_4 := n0_
                have BK385 := n1_
                have HB := n2_
                clear n0_ n1_ n2_
                have n0_ := qa (Kd.R_drew HO_4.out)
                have n1_ := qa (blk_drew BK385.out)
                have n2_ := qa (below_drew1 HB.out)
                clear HO_4
                clear BK385
                clear HB
                have HO_4 := n0_
                have BK385 := n1_
                have HB := n2_
                clear n0_ n1_ n2_
                refine start_ (n := 12) (S := fun w' => True) (ds := []) (bn 12 0) (by kernel_rfl) rfl rfl trivial (fun hHeld => ?_); refine with_tabW impl_collect.tab8 impl_collect.bits8 (fun HT_ HW_ => ?_)
                generalize w33.drew = w34 at HO_4 BK385 HB hHeld ⊢
                refine qp 0 20 12 1 HT_ ?_
                refine qp 1 21 12 3 HT_ ?_
                refine qp 2 22 12 7 HT_ ?_
                refine qu 3 23 12 15 HT_ ?_
                refine qu 4 24 12 31 HT_ ?_
                refine qu 5 25 12 63 HT_ ?_
                refine qu 6 26 12 127 HT_ ?_
                refine qu 7 27 12 255 HT_ ?_
                refine qu 8 28 12 511 HT_ ?_
                refine qu 9 29 12 1023 HT_ ?_
                refine qu 10 30 12 2047 HT_ ?_
                refine qp 11 31 12 4095 HT_ ?_
                refine done_ (done_of HT_.out (by kernel_rfl)) ?_
                have hcz35_0 : w34.cell? ⟨gb385, 0, none⟩ = some (.int .i64 ((rd_T62 l0 x14_1).f0)) := (blk_cell BK385.out 0).trans rfl
                have hcz35_1 : w34.cell? ⟨gb385, 1, none⟩ = some (.int .i64 ((rd_T62 l0 x14_1).f1)) := (blk_cell BK385.out 1).trans rfl
                have hcz35_2 : w34.cell? ⟨gb385, 2, none⟩ = some (.int .i64 ((rd_T62 l0 x14_1).f2)) := (blk_cell BK385.out 2).trans rfl
                have hcz35_3 : w34.cell? ⟨gb385, 3, none⟩ = some (.int .i64 ((rd_T62 l0 x14_1).f3)) := (blk_cell BK385.out 3).trans rfl
                have hfz35_0 := blk_frozen BK385.out 0
                have hfz35_1 := blk_frozen BK385.out 1
                have hfz35_2 := blk_frozen BK385.out 2
                have hfz35_3 := blk_frozen BK385.out 3
                try go_wp2_with (first | ((with_reducible refine gate_builtin (b := .append) (xs := #[.tmp 43, .tmp 45]) rfl ?_); at_builtin; refine Kd.R_append k62 (w0 := w) w.heap.size rfl (.tmp 43) (.tmp 45) 24 62 (.agg #[(.int .i64 0), (.int .i64 0), (.int .i64 0), (.int .i64 0)]) 32 rfl Tryz.underlying24 info62 rfl (by decide) (by omega) (.slice Ao32 x4_1.length co32) x4_1 (⟨(rd_T62 l0 x14_1).f0, (rd_T62 l0 x14_1).f1, (rd_T62 l0 x14_1).f2, (rd_T62 l0 x14_1).f3⟩ : S62) [.int .i64 ((rd_T62 l0 x14_1).f0), .int .i64 ((rd_T62 l0 x14_1).f1), .int .i64 ((rd_T62 l0 x14_1).f2), .int .i64 ((rd_T62 l0 x14_1).f3)] (fun k_ => k_ ≠ gb385) (fun _ => False) rfl rfl ?aP (fun _ hk => hk.elim) ?aF ?aO ?aB ?aS ?aL ?_; (case aP => exact k62_mkM _ _ _ (⟨(rd_T62 l0 x14_1).f0, (rd_T62 l0 x14_1).f1, (rd_T62 l0 x14_1).f2, (rd_T62 l0 x14_1).f3⟩ : S62)); (case aB => exact (by repeat (first | (with_reducible first | exact HB.out | apply below_alloc | apply pw_below_drewN | apply below_drew1 | refine below_set ?_ GE385.out) | exact HB.out))); (case aF => exact (fun k_ hk => Kd.freshB (g := gb385) (o := .cells #[.int .i64 ((rd_T62 l0 x14_1).f0), .int .i64 ((rd_T62 l0 x14_1).f1), .int .i64 ((rd_T62 l0 x14_1).f2), .int .i64 ((rd_T62 l0 x14_1).f3)] 62 (0, 0)) (zq1 BK385) k_ hk)); (case aO => exact (by (with_reducible repeat (first | apply Kd.R_alloc | apply Kd.R_drewN | apply Kd.R_drew)); exact HO_4.out)); (case aS => exact (below_size (by repeat (first | (with_reducible first | exact HB.out | apply below_alloc | apply pw_below_drewN | apply below_drew1 | refine below_set ?_ GE385.out) | exact HB.out)))); (case aL => have := LMc29.out; omega); intro v394 w36 ho hb hg hat; rw [← Ny393.out] at ho; have n0_ := qa (blk_grown (g := gb385) (o := .cells #[.int .i64 ((rd_T62 l0 x14_1).f0), .int .i64 ((rd_T62 l0 x14_1).f1), .int .i64 ((rd_T62 l0 x14_1).f2), .int .i64 ((rd_T62 l0 x14_1).f3)] 62 (0, 0)) (zq1 BK385) hg (Kd.R_away HO_4.out (fun _ hk => hk))); have n1_ := qa (hb); have n2_ := qa (ho); clear BK385; clear HB; clear HO_4; have BK385 := n0_; have HB := n1_; have HO395 := n2_; clear n0_ n1_ n2_; clear ho hb hg hat))
                go_roundg k1
                case measure => have := HK1.out; omega
                case rel => exact ⟨(y393), (wrap64 (x14_1 + 1)), qf, H', ⟨by have := HK1.out; omega⟩, ⟨by (with_reducible repeat (first | apply Kd.R_alloc | apply Kd.R_drewN | apply Kd.R_drew)); exact Kd.R_mono HO395.out (fun _ hk => trivial)⟩, ⟨by repeat (first | (with_reducible first | exact HB.out | apply below_alloc | apply pw_below_drewN | apply below_drew1 | refine below_set ?_ GE385.out) | exact HB.out)⟩⟩
              · rw [if_neg c29] at H
                exact absurd H (by simp)
          · rw [if_neg c4] at H
            exact absurd H (by simp)
        · rw [if_neg c3] at H
          exact absurd H (by simp)
      · rw [if_neg c2] at H
        have c2b0 := decide_eq_false c2
        clear c2
        obtain rfl := Option.some.inj H
        go_wp2
        show Code.wp _ _ _ _ _
        have hcall := impl_collect.deleteN kd (fun _ => True) _ _ _ w _ (zb0 HB) (by (with_reducible repeat (first | apply Kd.R_alloc | apply Kd.R_drewN | apply Kd.R_drew)); exact HO_4.out) HD.out
        go_wp2_with (go_at_call 70; refine hcall.mono ?_; rintro e wD ⟨vD, rfl, hrD, hbD⟩)
        exact HQ.out _ _ (Kd.R_mono hrD (fun _ _ => trivial)) hbD
theorem impl_collect.l0_run : ∀ (n i : Nat) (l out : List S62) (K : Nat), i + n = l.length → out.length ≤ i → l.length ≤ 1000000 → n + 5 < K → impl_collect.l0 K out l (l.length : Int) (i : Int) = some (Go.Proofs.YthanmlojikidbaaGreatCol.mrg impl_collect.ops z62 out (l.drop i))
  | 0, i, l, out, K, h, _, _, hK => by
    obtain ⟨K, rfl⟩ : ∃ j, K = j + 1 := ⟨K - 1, by omega⟩
    simp only [impl_collect.l0]
    rw [if_neg (by omega), List.drop_of_length_le (by omega)]; rfl
  | n + 1, i, l, out, K, h, ho, hl, hK => by
    obtain ⟨K, rfl⟩ : ∃ j, K = j + 1 := ⟨K - 1, by omega⟩
    have hi : i < l.length := by omega
    have ew : wrap64 ((i : Int) + 1) = ((i + 1 : Nat) : Int) := by unfold wrap64; omega
    have ed : l.drop i = l.getD i z62 :: l.drop (i + 1) := by rw [List.drop_eq_getElem_cons hi]; simp [List.getD_eq_getElem?_getD, hi]
    have er : rd_T62 l (i : Int) = l.getD i z62 := by unfold rd_T62; rw [Int.toNat_natCast]
    have ih := fun o ho' => impl_collect.l0_run n (i + 1) l o K (by omega) ho' hl (by omega)
    have es : Go.Proofs.YthanmlojikidbaaGreatCol.mrg impl_collect.ops z62 out (l.drop i) = Go.Proofs.YthanmlojikidbaaGreatCol.mrg impl_collect.ops z62 (Go.Proofs.YthanmlojikidbaaGreatCol.stp impl_collect.ops z62 out (l.getD i z62)) (l.drop (i + 1)) := by rw [ed]; rfl
    simp only [impl_collect.l0]
    rw [if_pos (by omega), if_pos (by omega), if_pos (by omega), ew, er, es]
    by_cases c : 0 < out.length
    · have ew2 : wrap64 ((out.length : Int) - 1) = ((out.length - 1 : Nat) : Int) := by unfold wrap64; omega
      have er2 : rd_T62 out ((out.length - 1 : Nat) : Int) = out.getD (out.length - 1) z62 := by unfold rd_T62; rw [Int.toNat_natCast]
      rw [if_pos (by omega), ew2, er2, if_pos (by omega), if_pos (by omega), impl_collect.cmp2 _ _ K (by omega), impl_collect.bs']
      by_cases k : Go.Proofs.YthanmlojikidbaaGreatCol.Eqk impl_collect.ops (out.getD (out.length - 1) z62) (l.getD i z62)
      · have e : Go.Proofs.YthanmlojikidbaaGreatCol.stp impl_collect.ops z62 out (l.getD i z62) = out.set (out.length - 1) (⟨wrap64 ((out.getD (out.length - 1) z62).f0 + (l.getD i z62).f0), (out.getD (out.length - 1) z62).f1, (out.getD (out.length - 1) z62).f2, (out.getD (out.length - 1) z62).f3⟩ : S62) := by
          unfold Go.Proofs.YthanmlojikidbaaGreatCol.stp; rw [if_pos ⟨c, k⟩]; rfl
        rw [if_pos (show impl_collect.cf _ _ = 0 from Go.Proofs.YthanmlojikidbaaGreatCol.cmpk_eq.2 k), Int.toNat_natCast, e]
        exact ih _ (by rw [List.length_set]; omega)
      · have e : Go.Proofs.YthanmlojikidbaaGreatCol.stp impl_collect.ops z62 out (l.getD i z62) = out ++ [l.getD i z62] := by
          unfold Go.Proofs.YthanmlojikidbaaGreatCol.stp; rw [if_neg (fun h => k h.2)]
        rw [if_neg (show ¬ impl_collect.cf _ _ = 0 from fun h => k (Go.Proofs.YthanmlojikidbaaGreatCol.cmpk_eq.1 h)), if_pos (by omega), e]
        exact ih _ (by rw [List.length_append, List.length_singleton]; omega)
    · have e : Go.Proofs.YthanmlojikidbaaGreatCol.stp impl_collect.ops z62 out (l.getD i z62) = out ++ [l.getD i z62] := by
        unfold Go.Proofs.YthanmlojikidbaaGreatCol.stp; rw [if_neg (fun h => c h.1)]
      rw [if_neg (by omega), if_pos (by omega), e]
      exact ih _ (by rw [List.length_append, List.length_singleton]; omega)
def impl_collect.nz (t : S62) : Bool := decide (t.f0 ≠ 0)
theorem impl_collect.ix_run : ∀ (n i : Nat) (l : List S62) (K : Nat), i + n = l.length → l.length ≤ 2000000 → n + 1 < K → (∀ t, t < i → (l.getD t z62).f0 ≠ 0) →
    (impl_collect.ix K l (i : Int) = some (-1) ∧ ∀ t, t < l.length → (l.getD t z62).f0 ≠ 0) ∨ ∃ k0 : Nat, impl_collect.ix K l (i : Int) = some (k0 : Int) ∧ k0 < l.length ∧ (l.getD k0 z62).f0 = 0 ∧ ∀ t, t < k0 → (l.getD t z62).f0 ≠ 0
  | 0, i, l, K, h, _, hK, ha => by
    obtain ⟨K, rfl⟩ : ∃ j, K = j + 1 := ⟨K - 1, by omega⟩
    left
    simp only [impl_collect.ix]
    rw [if_neg (by omega)]
    exact ⟨rfl, fun t ht => ha t (by omega)⟩
  | n + 1, i, l, K, h, hl, hK, ha => by
    obtain ⟨K, rfl⟩ : ∃ j, K = j + 1 := ⟨K - 1, by omega⟩
    have er : rd_T62 l (i : Int) = l.getD i z62 := by unfold rd_T62; rw [Int.toNat_natCast]
    have ew : wrap64 ((i : Int) + 1) = ((i + 1 : Nat) : Int) := by unfold wrap64; omega
    simp only [impl_collect.ix]
    rw [if_pos (by omega), if_pos (by omega), er, ew]
    by_cases c : (l.getD i z62).f0 = 0
    · rw [if_pos c]
      exact Or.inr ⟨i, rfl, by omega, c, ha⟩
    · rw [if_neg c]
      exact impl_collect.ix_run n (i + 1) l K (by omega) hl (by omega) (fun t ht => if e : t = i then by rw [e]; exact c else ha t (by omega))
theorem impl_collect.dl_run : ∀ (n j i : Nat) (l x : List S62) (K : Nat), j + n = l.length → x.length = l.length → i < j → x.take i = (l.take j).filter impl_collect.nz → (∀ t, j ≤ t → x.getD t z62 = l.getD t z62) → l.length ≤ 2000000 → n + 1 < K →
    ∃ (m : Nat) (x' : List S62), impl_collect.dl K x (i : Int) (j : Int) = some ((m : Int), x') ∧ x'.take m = l.filter impl_collect.nz
  | 0, j, i, l, x, K, h, hx, hij, ht, _, _, hK => by
    obtain ⟨K, rfl⟩ : ∃ j, K = j + 1 := ⟨K - 1, by omega⟩
    refine ⟨i, x, ?_, ?_⟩
    · simp only [impl_collect.dl]
      rw [if_neg (by omega), if_pos (by omega), if_pos (by omega)]
    · rw [ht, List.take_of_length_le (by omega)]
  | n + 1, j, i, l, x, K, h, hx, hij, ht, hh, hl, hK => by
    obtain ⟨K, rfl⟩ : ∃ j, K = j + 1 := ⟨K - 1, by omega⟩
    have hj : j < l.length := by omega
    have er : rd_T62 x (j : Int) = l.getD j z62 := by unfold rd_T62; rw [Int.toNat_natCast]; exact hh j (Nat.le_refl _)
    have ew : wrap64 ((j : Int) + 1) = ((j + 1 : Nat) : Int) := by unfold wrap64; omega
    have ew2 : wrap64 ((i : Int) + 1) = ((i + 1 : Nat) : Int) := by unfold wrap64; omega
    have eg : l[j] = l.getD j z62 := by simp [List.getD_eq_getElem?_getD, hj]
    have et : l.take (j + 1) = l.take j ++ [l.getD j z62] := by rw [List.take_succ_eq_append_getElem hj, eg]
    simp only [impl_collect.dl]
    rw [if_pos (by omega), if_pos (by omega), er, impl_collect.bs', ew]
    by_cases c : (l.getD j z62).f0 = 0
    · rw [if_pos (by rw [c]; rfl)]
      exact impl_collect.dl_run n (j + 1) i l x K (by omega) hx (by omega) (by rw [et, List.filter_append, ← ht, List.filter_cons_of_neg (by simp only [impl_collect.nz, c]; decide), List.filter_nil, List.append_nil]) (fun t h1 => hh t (by omega)) hl (by omega)
    · rw [if_neg (by rw [beq_false_of_ne c]; decide), if_pos (by omega), if_pos (by omega), ew2, Int.toNat_natCast]
      refine impl_collect.dl_run n (j + 1) (i + 1) l _ K (by omega) (by rw [List.length_set]; exact hx) (by omega) ?_ (fun t h1 => ?_) hl (by omega)
      · rw [et, List.filter_append, ← ht, List.filter_cons_of_pos (by simp only [impl_collect.nz]; exact decide_eq_true c), List.filter_nil, List.take_succ_eq_append_getElem (by rw [List.length_set]; omega), List.take_set_of_le (Nat.le_refl _)]
        simp
      · rw [List.getD_eq_getElem?_getD, List.getElem?_set_ne (by omega), ← List.getD_eq_getElem?_getD]
        exact hh t (by omega)
theorem impl_collect.del_run (l : List S62) (K : Nat) (hl : l.length ≤ 2000000) (hK : l.length + 2 < K) : impl_collect.del K l = some (l.filter impl_collect.nz) := by
  unfold impl_collect.del
  rcases impl_collect.ix_run l.length 0 l K (by omega) hl (by omega) (fun t ht => absurd ht (Nat.not_lt_zero t)) with ⟨e, ha⟩ | ⟨k0, e, h1, h2, h3⟩
  · rw [show ((0 : Nat) : Int) = 0 from rfl] at e
    rw [e, impl_collect.bs', if_pos rfl]
    congr 1
    symm
    rw [List.filter_eq_self]
    intro t ht
    obtain ⟨i, hi, e⟩ := List.getElem_of_mem ht
    have := ha i hi
    rw [List.getD_eq_getElem?_getD, List.getElem?_eq_getElem hi, Option.getD_some, e] at this
    exact decide_eq_true this
  · rw [show ((0 : Nat) : Int) = 0 from rfl] at e
    have ew : wrap64 ((k0 : Int) + 1) = ((k0 + 1 : Nat) : Int) := by unfold wrap64; omega
    have eg : l[k0] = l.getD k0 z62 := by simp [List.getD_eq_getElem?_getD, h1]
    rw [e, impl_collect.bs', if_neg (by omega), ew]
    have h4 : l.take k0 = (l.take (k0 + 1)).filter impl_collect.nz := by
      rw [List.take_succ_eq_append_getElem h1, List.filter_append, eg, List.filter_cons_of_neg (by simp only [impl_collect.nz, h2]; decide), List.filter_nil, List.append_nil]
      symm
      rw [List.filter_eq_self]
      intro t ht
      obtain ⟨i, hi, e⟩ := List.getElem_of_mem ht
      have hi2 : i < k0 := by rw [List.length_take] at hi; omega
      have := h3 i hi2
      rw [List.getD_eq_getElem?_getD, List.getElem?_eq_getElem (by omega), Option.getD_some] at this
      rw [List.getElem_take] at e
      rw [← e]
      exact decide_eq_true this
    obtain ⟨m, x', e1, e2⟩ := impl_collect.dl_run (l.length - (k0 + 1)) (k0 + 1) k0 l l K (by omega) rfl (by omega) h4 (fun _ _ => rfl) hl (by omega)
    rw [e1, impl_collect.bs', Int.toNat_natCast, e2]
theorem impl_collect.insNil (w : World) : Calls Tryz.prog 101 #[.slice none 0 0, .int .i64 0, .int .i64 0, .func (.func 64) #[] #[]] w fun e w' => e = .returned (.tuple #[]) ∧ w' = w := by
  go_enter Tryz.func101, Tryz.ntmps101
  go_wp2
  go_loopg [8] 0 (fun kq v8 w' => v8 = .int .i64 1 ∧ w' = w)
  case atStart => exact ⟨rfl, rfl⟩
  case round =>
    obtain ⟨rfl, rfl⟩ := hrel
    go_wp2
    go_end0
    exact ⟨rfl, rfl⟩
theorem impl_collect.stbNil (w : World) : Calls Tryz.prog 87 #[.slice none 0 0, .int .i64 0, .func (.func 64) #[] #[]] w fun e w' => e = .returned (.tuple #[]) ∧ w' = w := by
  have hcall := impl_collect.insNil w
  go_enter Tryz.func87, Tryz.ntmps87
  go_wp2
  go_loopg [7, 8] 0 (fun kq v7 v8 w' => v7 = .int .i64 0 ∧ v8 = .int .i64 20 ∧ w' = w)
  case atStart => exact ⟨rfl, rfl, rfl⟩
  case round =>
    obtain ⟨rfl, rfl, rfl⟩ := hrel
    go_wp2_with (go_at_call 101; refine hcall.mono ?_; rintro e w2 ⟨rfl, rfl⟩)
    go_loopg [6] 0 (fun kq v6 w3 => v6 = .int .i64 20 ∧ w3 = w2)
    case atStart => exact ⟨rfl, rfl⟩
    case round =>
      obtain ⟨rfl, rfl⟩ := hrel
      go_wp2
      go_end0
      exact ⟨rfl, rfl⟩
theorem impl_collect.sstNil (w : World) : Calls Tryz.prog 69 #[.slice none 0 0, .func (.func 64) #[] #[]] w fun e w' => e = .returned (.tuple #[]) ∧ w' = w := by
  have hcall := impl_collect.stbNil w
  go_enter Tryz.func69, Tryz.ntmps69
  go_wp2_with (go_at_call 87; refine hcall.mono ?_; rintro e w2 ⟨rfl, rfl⟩)
  go_end0
  exact ⟨rfl, rfl⟩
theorem impl_collect.sort (B : Nat) (v1 : Value) (w1 : World) (l0 : List S62) (hl : l0.length ≤ 1000000) (h1 : Kd.R k62 62 w1 B (fun _ => True) v1 l0) :
    Calls Tryz.prog 69 #[v1, .func (.func 64) #[] #[]] w1 fun e w' => e = .returned (.tuple #[]) ∧ ∃ l' : List S62, l'.Perm l0 ∧ l'.Pairwise (fun a b => ¬ Go.Proofs.YthanmlojikidbaaGreatCol.Lt impl_collect.ops b a) ∧ Kd.R k62 62 w' B (fun _ => True) v1 l' ∧ Below B w1 w' := by
  have h1' := h1
  obtain ⟨h0, inner, ho, hr⟩ := h1'
  obtain ⟨hz, ho⟩ := ho
  rcases ho with ⟨e1, e2⟩ | ⟨g, cap, cur, e1, hb, hh, h2, h3, h4, h5⟩
  · subst e1
    have el : l0 = [] := List.length_eq_zero_iff.1 e2
    subst el
    refine (impl_collect.sstNil w1).mono ?_
    rintro e w' ⟨rfl, rfl⟩
    exact ⟨rfl, [], List.Perm.nil, List.Pairwise.nil, h1, Below.refl _ _⟩
  · subst e1
    obtain ⟨hH, hg, _⟩ := impl_collect.holds h1
    have eg : ∀ args w, (callFunc 64 args).run Tryz.prog w = .ok (.enter 64 args) w := enters_of Tryz.func64 (by kernel_rfl) rfl
    have hcall := Go.Proofs.YthanmlojikidbaaGreatStw5.sortStable 4 Tryz.isAgg62 Tryz.sizeOf62 impl_collect.enc impl_collect.cf impl_collect.swo 64 #[] g 0 cap l0.toArray w1 eg (impl_collect.lays g 0 l0.toArray.size w1) ⟨fun _ => rfl, impl_collect.one4, hH, hg⟩ (by simp; omega)
    refine Calls.mono hcall ?_
    rintro e w' ⟨rfl, d', hp, hs, hw⟩
    have hsz : d'.size = l0.length := by rw [hp.1]; simp
    obtain ⟨r1, r2⟩ := impl_collect.ofSWK h1 hw hsz
    refine ⟨rfl, d'.toList, ?_, ?_, r1, r2 B hb⟩
    · have h := hp.2.2
      have e1 : (d'.extract 0 l0.toArray.size).toList = d'.toList := by simp [← hsz]
      have e2 : (l0.toArray.extract 0 l0.toArray.size).toList = l0 := by simp
      rwa [e1, e2] at h
    · rw [List.pairwise_iff_getElem]
      intro i j hi hj hij
      have hi' : i < d'.size := by simpa using hi
      have hj' : j < d'.size := by simpa using hj
      have h := hs i j (Nat.zero_le _) hij (by simpa [hsz] using hj')
      rw [getElem!_pos d' i hi', getElem!_pos d' j hj'] at h
      have h' := of_decide_eq_false h
      intro k
      exact h' (Go.Proofs.YthanmlojikidbaaGreatCol.cmpk_lt.2 k : impl_collect.cf d'[j] d'[i] < 0)
set_option maxHeartbeats 8000000 in
set_option maxRecDepth 100000 in
theorem impl_collect.calls (A0 : Option Addr) (c0 : Nat) (l0 : List (S62)) (r : List (S62)) (w : World) (hr0 : Kd.C k62 w A0 l0.length l0) (hc0 : l0.length ≤ c0) (h : impl_collect.f l0 = some r) :
    Calls Tryz.prog 37 #[.slice A0 l0.length c0] w fun e w' => ∃ v0_ : Value, e = .returned (v0_) ∧ Kd.R k62 62 w' w.heap.size (fun _ => True) v0_ r ∧ Below w.heap.size w w' := by
  unfold impl_collect.f at h
  by_cases hok : impl_collect.ok l0 = true
  · rw [if_pos hok] at h
    obtain rfl := Option.some.inj h
    clear h
    unfold impl_collect.ok at hok
    rw [Bool.and_eq_true] at hok
    have hlen : l0.length ≤ 1000000 := of_decide_eq_true hok.1
    have hrg : ∀ t ∈ l0, wrap64 (impl_collect.ops.c t) = impl_collect.ops.c t := fun t ht => of_decide_eq_true (List.all_eq_true.1 hok.2 t ht)
    have HRG : Aside _ := hrg
    have hcl := impl_collect.clone A0 c0 l0 w hr0 hc0 (by omega)
    clear hok hrg hr0
    go_enter Tryz.func37, Tryz.ntmps37
    refine Go.Proofs.YthanmlojikidbaaGreatStw2.wp_seq_stop (fun K0 hK0 => ?_)
    go_wp2
    show Code.wp _ _ _ _ _
    refine Go.Proofs.YthanmlojikidbaaGreatStw2.wp_seq_stop (fun K1 hK1 => ?_)
    go_wp2_with (go_at_call 68; refine hcl.mono ?_; rintro e w1 ⟨v1, rfl, h1, hb1⟩)
    show Code.wp _ _ _ _ _
    obtain ⟨A1, c1, e1⟩ := Kd.R_slice h1
    subst e1
    have hso := impl_collect.sort w.heap.size _ w1 l0 hlen h1
    have HB1 := qa hb1
    clear hcl h1 hb1
    refine Go.Proofs.YthanmlojikidbaaGreatStw2.wp_seq_stop (fun K2 hK2 => ?_)
    go_wp2_with (go_at_call 69; refine hso.mono ?_; rintro e w2 ⟨rfl, l2, hp2, hs2, hr2, hb2⟩)
    show Code.wp _ _ _ _ _
    have hl2 : l0.length = l2.length := hp2.length_eq.symm
    have hB2 := HB1.out.trans hb2
    have hml := Go.Proofs.YthanmlojikidbaaGreatCol.mrg_len (o := impl_collect.ops) z62 l2 []
    rw [List.length_nil, Nat.zero_add] at hml
    have hm := impl_collect.l0_run l2.length 0 l2 [] (l2.length + 6) (Nat.zero_add _) (Nat.le_refl _) (by omega) (by omega)
    have hd := impl_collect.del_run (Go.Proofs.YthanmlojikidbaaGreatCol.mrg impl_collect.ops z62 [] l2) (l2.length + 3) (by omega) (by omega)
    rw [List.drop_zero] at hm
    have hfin : (Go.Proofs.YthanmlojikidbaaGreatCol.mrg impl_collect.ops z62 [] l2).filter impl_collect.nz = Go.Proofs.YthanmlojikidbaaGreatCol.sums impl_collect.ops l0 := Go.Proofs.YthanmlojikidbaaGreatCol.merged_eq z62 hp2 hs2 HRG.out
    rw [hfin] at hd
    have hcr := (Kd.R_reads' hr2).2.2
    have hc2 := (Kd.R_reads' hr2).2.1
    refine impl_collect.rest _ _ A1 c1 l2 _ _ w2 hcr (by omega) hm hd l0.length hl2 _ _ (by kernel_rfl) (fun v w' hv hb => ?_)
    exact ⟨v, rfl, Kd.R_lower hv hB2.size, hB2.trans (hb.mono hB2.size)⟩
  · rw [if_neg hok] at h
    cases h
end Go.Proofs.YthanmlojikidbaaGreat.PD
