-- By wip/mk/drv.py
import Derived.Test.YtgaoniapddpaaaaQMiddntPDx0
import Derived.Test.YtgaoniapddpaaaaQMiddntPDx1
import Derived.Test.YtgaoniapddpaaaaQMiddntPDx17
namespace Go.Proofs.Ytgaoniapddpaaaa.PD
open Go.RowKit Go.Proofs.YtgaoniapddpaaaaW.PrintWords Go.Proofs.YtgaoniapddpaaaaW.PrintLast Go.Proofs.YtgaoniapddpaaaaW.PrintMore
attribute [local go_sem] max2_int min2_int max_two min_two max_three min_three max_four min_four
set_option linter.unusedVariables false
set_option linter.unusedSimpArgs false
/-! ### spec_bxMiddle: function 80 -/
def spec_bxMiddle.T5 : Bool × List (List Nat × List Nat) := (true, [([], []), ([], []), ([], []), ([2], [2]), ([], []), ([3, 4], [3, 4]), ([5], [5]), ([1, 6], [1, 6]), ([], []), ([8], [8]), ([9], [9]), ([7, 10], [7, 10]), ([11], [11]), ([0, 12, 11], [0, 12]), ([13, 13, 0, 1, 2, 3, 4, 5, 6, 7, 8, 9, 10, 11, 12, 13], [0, 13])])
def spec_bxMiddle.B5 : List Nat := [0, 0, 0, 4, 0, 28, 60, 126, 0, 256, 768, 2046, 4094, 8191, 16383]
theorem spec_bxMiddle.tab5 : rtab .any (opsOf Try.f80 5) = spec_bxMiddle.T5 := by kernel_rfl
theorem spec_bxMiddle.bits5 : waitsOk spec_bxMiddle.T5.2 spec_bxMiddle.B5 = true := by kernel_rfl
set_option maxHeartbeats 8000000 in
set_option maxRecDepth 100000 in
theorem spec_bxMiddle.calls (k : Nat) (a0_0 : Int) (A0_1 : Option Addr) (c0_1 : Nat) (l0_1 : List Int) (A0_2 : Option Addr) (c0_2 : Nat) (l0_2 : List Int) (r : List (S37)) (w : World) (hr0_1 : Kd.C (Kd.int .i64) w A0_1 l0_1.length l0_1) (hc0_1 : l0_1.length ≤ c0_1) (hr0_2 : Kd.C (Kd.int .i64) w A0_2 l0_2.length l0_2) (hc0_2 : l0_2.length ≤ c0_2) (h : spec_bxMiddle.f k a0_0 l0_1 l0_2 = some r) :
  Calls Try.prog 80 #[.agg #[.int .i64 a0_0, .slice A0_1 l0_1.length c0_1, .slice A0_2 l0_2.length c0_2]] w fun e w' => ∃ v0_ : Value, e = .returned (v0_) ∧ Kd.R k37 37 w' w.heap.size (fun _ => True) v0_ r ∧ Below w.heap.size w w' := by
 have hu27 := Try.underlying27
 have HR0_1 := Aside0.mk hr0_1
 have HC0_1 := Aside0.mk hc0_1
 clear hr0_1 hc0_1
 have HR0_2 := Aside0.mk hr0_2
 have HC0_2 := Aside0.mk hc0_2
 clear hr0_2 hc0_2
 have HB := Aside0.mk (Below.refl w.heap.size w)
 have H : (spec_bxMiddle.l0 k ([] : List (S37)) l0_1 (l0_1.length : Int) 0 a0_0 l0_1 l0_2) = some r := h
 clear h
 have H' := Aside0.mk H
 clear H
 go_enter Try.func80, Try.ntmps80
 go_wp2_with (first | ((with_reducible refine gate_dst (N := 1) rfl ?_); refine zbe (N := 1) (cs := #[.int .i64 a0_0, .slice A0_1 l0_1.length c0_1, .slice A0_2 l0_2.length c0_2]) (t := 27) ?_; intro gb421 hg w2 hbox hb; have BK421 := Aside0.mk (hbox); have GW421 := Aside0.mk (zge (zb0 HB) hg); have GE421 := GW421; replace HB := Aside0.mk (below_step (zb0 HB) hb); clear hb hbox hg; have hcz3_0 : w2.cell? ⟨gb421, 0, none⟩ = some (.int .i64 a0_0) := zc BK421 0; have hcz3_1 : w2.cell? ⟨gb421, 1, none⟩ = some (.slice A0_1 l0_1.length c0_1) := zc BK421 1; have hcz3_2 : w2.cell? ⟨gb421, 2, none⟩ = some (.slice A0_2 l0_2.length c0_2) := zc BK421 2; have hfz3_0 := blk_frozen BK421.out 0; have hfz3_1 := blk_frozen BK421.out 1; have hfz3_2 := blk_frozen BK421.out 2))
 go_loopg [3, 9] k (fun kq v3 v9 w' => ∃ (x3_1 : List (S37)) (x9_1 : Int), v9 = .int .i64 x9_1 ∧ Aside0 (spec_bxMiddle.l0 kq x3_1 l0_1 (l0_1.length : Int) x9_1 a0_0 l0_1 l0_2 = some r) ∧ Aside0 (kq ≤ k) ∧ Aside0 (Kd.R k37 37 w' w.heap.size (fun _ => True) v3 x3_1) ∧ Aside0 (w'.heap[gb421]? = some (.cells #[.int .i64 a0_0, (.slice A0_1 l0_1.length c0_1), (.slice A0_2 l0_2.length c0_2)] 27 (0, 0))) ∧ Aside0 (Below w.heap.size w w'))
 case atStart => exact ⟨(([] : List (S37))), (0), (by first | rfl | (simp; done) | (simp [*]; done)), H', ⟨Nat.le_refl _⟩, ⟨by first | exact Kd.R_nil _ _ _ _ _ | exact Kd.N_nil _ _ _ _ _ | exact Kd.V_nil _ _ _ _ _ | exact Kd.Q_nil _ _ _ _ _ | exact Kd.S_nil _ _ _ _ _⟩, ⟨by (with_reducible repeat (first | refine blk_drewN ?_ _ | refine blk_drew ?_ | refine blk_alloc ?_ _)); exact BK421.out⟩, ⟨(zb1 HB)⟩⟩
 case round =>
  clear H'
  try clear p2
  try clear hcz3_0
  try clear hcz3_1
  try clear hcz3_2
  try clear hfz3_0
  try clear hfz3_1
  try clear hfz3_2
  obtain ⟨x3_1, x9_1, rfl, HA, HK1, HO_3, BK421, HB⟩ := hrel
  cases gk with
  | zero => exact absurd HA.out (by simp [spec_bxMiddle.l0])
  | succ k1 =>
   have H := HA.out
   clear HA
   simp only [spec_bxMiddle.l0] at H
   by_cases c4 : x9_1 < (l0_1.length : Int)
   ·
    rw [if_pos c4] at H
    have c4b0 : decide (x9_1 < (l0_1.length : Int)) = true := decide_eq_true c4
    clear c4
    by_cases c5 : 0 ≤ x9_1
    ·
     rw [if_pos c5] at H
     have c5b0 : decide (0 ≤ x9_1) = true := decide_eq_true c5
     clear c5
     by_cases c6 : x9_1 < (l0_1.length : Int)
     ·
      rw [if_pos c6] at H
      have c6b0 : decide (x9_1 < (l0_1.length : Int)) = true := decide_eq_true c6
      clear c6
      by_cases c7 : x9_1 < (l0_2.length : Int)
      ·
       rw [if_pos c7] at H
       have c7b0 : decide (x9_1 < (l0_2.length : Int)) = true := decide_eq_true c7
       clear c7
       replace H := Option.bind_eq_some_iff.mp H
       obtain ⟨⟨t424, t425⟩, A80, H⟩ := H
       replace H : (if x3_1.length < 8796093022208 then (spec_bxMiddle.l0 k1 (x3_1 ++ [(⟨t424, t425⟩ : S37)]) l0_1 (l0_1.length : Int) (wrap64 (x9_1 + 1)) a0_0 l0_1 l0_2) else (none)) = some r := H
       have A8 := Aside0.mk A80
       clear A80
       by_cases c9 : x3_1.length < 8796093022208
       ·
        rw [if_pos c9] at H
        have LMc9 := Aside0.mk c9
        clear c9
        obtain ⟨y426, hy426⟩ : ∃ y_ : List (S37), y_ = (x3_1 ++ [(⟨t424, t425⟩ : S37)]) := ⟨_, rfl⟩
        replace H : (spec_bxMiddle.l0 k1 y426 l0_1 (l0_1.length : Int) (wrap64 (x9_1 + 1)) a0_0 l0_1 l0_2) = some r := by first | (rw [hy426]; with_reducible exact H) | (have H2_ := (Option.bind_some _ _).symm.trans H; rw [hy426]; with_reducible exact H2_) | (have H2_ := (Option.bind_some _ _).symm.trans H; with_reducible exact H2_) | with_reducible exact H | (rw [hy426]; exact H) | exact H
        have Ny426 := Aside0.mk hy426
        clear hy426
        have H' := Aside0.mk H
        clear H
        have p422 : 0 ≤ (x9_1 : Int) := of_decide_eq_true (by first | (with_reducible assumption) | assumption)
        have q422 : x9_1 < (l0_1.length : Int) := of_decide_eq_true (by first | (with_reducible assumption) | assumption)
        obtain ⟨ad422, e422, hx422_0⟩ := Kd.at_int HR0_1.out x9_1 p422 q422
        cases e422
        replace hx422_0 := (HB.out.cell (World.block_lt_of_cell? w _ hx422_0)).trans hx422_0
        replace p422 := eq_true p422
        replace q422 := eq_true q422
        try go_wp2
        replace HO_3 := Aside0.mk (Kd.R_drew HO_3.out); replace BK421 := Aside0.mk (blk_drew BK421.out); replace HB := Aside0.mk (below_drew1 HB.out)
        have p423 : 0 ≤ (x9_1 : Int) := of_decide_eq_true (by first | (with_reducible assumption) | assumption)
        have q423 : x9_1 < (l0_2.length : Int) := of_decide_eq_true (by first | (with_reducible assumption) | assumption)
        obtain ⟨ad423, e423, hx423_0⟩ := Kd.at_int HR0_2.out x9_1 p423 q423
        have hw423_0 := hx423_0
        cases e423
        replace hx423_0 := (HB.out.cell (World.block_lt_of_cell? w _ hx423_0)).trans hx423_0
        replace p423 := eq_true p423
        replace q423 := eq_true q423
        refine start_ (n := 15) (S := fun w' => w'.cell? ⟨gb421, 0, none⟩ = some (.int .i64 a0_0) ∧ w'.cell? ⟨gb421, 1, none⟩ = some (.slice (some ad422) l0_1.length c0_1) ∧ w'.cell? ⟨gb421, 2, none⟩ = some (.slice (some ad423) l0_2.length c0_2) ∧ w'.cell? (ad423.add (x9_1).toNat) = some (.int .i64 (rd l0_2 x9_1))) (ds := []) #[false, false, false, false, false, false, false, false, false, false, false, false, false, false, false] (by kernel_rfl) rfl rfl ⟨zc BK421 0, zc BK421 1, zc BK421 2, ((HB.out.cell (World.block_lt_of_cell? w _ hw423_0)).trans hw423_0)⟩ (fun hHeld => ?_); refine with_tabW spec_bxMiddle.tab5 spec_bxMiddle.bits5 (fun HT_ HW_ => ?_)
        generalize wr.drew = w10 at HO_3 BK421 HB hx423_0 hHeld ⊢
        refine zp (i := 0) (N := some 14) #[true, false, false, false, false, false, false, false, false, false, false, false, false, false, false] (any_of HT_.out (by kernel_rfl)) ?_
        refine zp (i := 1) (N := some 15) #[true, true, false, false, false, false, false, false, false, false, false, false, false, false, false] (any_of HT_.out (by kernel_rfl)) ?_
        refine zp (i := 2) (N := some 16) #[true, true, true, false, false, false, false, false, false, false, false, false, false, false, false] (any_of HT_.out (by kernel_rfl)) ?_
        refine zp (i := 4) (N := some 18) #[true, true, true, false, true, false, false, false, false, false, false, false, false, false, false] (any_of HT_.out (by kernel_rfl)) ?_
        refine zp (i := 8) (N := some 22) #[true, true, true, false, true, false, false, false, true, false, false, false, false, false, false] (any_of HT_.out (by kernel_rfl)) ?_
        refine take_ (i := 3) (N := some 17) (v := ?_) (a' := ?_) #[true, true, true, true, true, false, false, false, true, false, false, false, false, false, false] rfl rfl (take_ofW HT_.out HW_.out (by kernel_rfl)) (fun _ _ _ h => h) (Or.inl ⟨by rfl, ?_⟩) hHeld ?_ ?_
        rotate_left
        ·
         rintro w' ⟨s0, s1, s2, s3⟩
         go_simp
         with_reducible rfl
        rotate_left
        ·
         simp only [Act.put, List.setIfInBounds_toArray, List.set_cons_zero, List.set_cons_succ, i64_w, i32_w]
         rfl
        refine zp (i := 5) (N := some 19) #[true, true, true, true, true, true, false, false, true, false, false, false, false, false, false] (any_of HT_.out (by kernel_rfl)) ?_
        refine take_ (i := 6) (N := some 20) (v := ?_) (a' := ?_) #[true, true, true, true, true, true, true, false, true, false, false, false, false, false, false] rfl rfl (take_ofW HT_.out HW_.out (by kernel_rfl)) (fun _ _ _ h => h) (Or.inl ⟨by rfl, ?_⟩) hHeld ?_ ?_
        rotate_left
        ·
         rintro w' ⟨s0, s1, s2, s3⟩
         go_simp
         with_reducible rfl
        rotate_left
        ·
         simp only [Act.put, List.setIfInBounds_toArray, List.set_cons_zero, List.set_cons_succ, i64_w, i32_w]
         rfl
        refine zp (i := 7) (N := some 21) #[true, true, true, true, true, true, true, true, true, false, false, false, false, false, false] (any_of HT_.out (by kernel_rfl)) ?_
        refine take_ (i := 9) (N := some 23) (v := ?_) (a' := ?_) #[true, true, true, true, true, true, true, true, true, true, false, false, false, false, false] rfl rfl (take_ofW HT_.out HW_.out (by kernel_rfl)) (fun _ _ _ h => h) (Or.inl ⟨by rfl, ?_⟩) hHeld ?_ ?_
        rotate_left
        ·
         rintro w' ⟨s0, s1, s2, s3⟩
         go_simp
         with_reducible rfl
        rotate_left
        ·
         simp only [Act.put, List.setIfInBounds_toArray, List.set_cons_zero, List.set_cons_succ, i64_w, i32_w]
         rfl
        refine zp (i := 10) (N := some 24) #[true, true, true, true, true, true, true, true, true, true, true, false, false, false, false] (any_of HT_.out (by kernel_rfl)) ?_
        refine one_ (i := 11) (N := some 25) #[true, true, true, true, true, true, true, true, true, true, true, true, false, false, false] rfl rfl (one_of HT_.out (by kernel_rfl)) (by decide) (fun K hK => ?_)
        refine goes_ Try.func64 (by kernel_rfl) rfl #[.int .i64 (wrap64 ((rd l0_1 x9_1) + (rd l0_2 x9_1))), .int .i64 (wrap64 (a0_0 + 1))] (by rfl) rfl rfl zq6 ?_
        with_reducible refine (spec_bxNumber.calls k1 (wrap64 ((rd l0_1 x9_1) + (rd l0_2 x9_1))) (wrap64 (a0_0 + 1)) t424 t425 _ A8.out).mono ?_
        rintro e w11 ⟨rfl, hb⟩
        refine ⟨_, rfl, ?_⟩
        replace HO_3 := Aside0.mk (Kd.R_below (zq3 HO_3) hb); replace BK421 := Aside0.mk (zbb BK421 hb); replace HB := Aside0.mk (below_step (zb1 HB) hb)
        (try clear hb)
        (try clear hb2)
        (try clear hk)
        (try clear hi)
        refine hK.out _ _ ⟨zc BK421 0, zc BK421 1, zc BK421 2, ((HB.out.cell (World.block_lt_of_cell? w _ hw423_0)).trans hw423_0)⟩ (fun hHeld => ?_)
        clear hK K
        refine norm_ (a' := ?_) ?_ ?_
        rotate_left
        ·
         show Act.put _ (some 25) _ = _
         simp only [Act.put, List.setIfInBounds_toArray, List.set_cons_zero, List.set_cons_succ, i64_w, i32_w]; rfl
        refine one_ (i := 12) (N := some 26) #[true, true, true, true, true, true, true, true, true, true, true, true, true, false, false] rfl rfl (one_of HT_.out (by kernel_rfl)) (by decide) (fun K hK => ?_)
        refine value_ (w1 := ?_) (v := ?_) (by rfl) rfl ?_ ?_
        rotate_left 2
        ·
         go_simp
         constructor
         ·
          rfl
         ·
          rfl
        refine hK.out _ _ ⟨(blk_cell (blk_alloc BK421.out _) 0).trans rfl, (blk_cell (blk_alloc BK421.out _) 1).trans rfl, (blk_cell (blk_alloc BK421.out _) 2).trans rfl, (World.cell?_alloc_lt _ _ _ (World.block_lt_of_cell? _ _ (((HB.out.cell (World.block_lt_of_cell? w _ hw423_0)).trans hw423_0)))).trans (((HB.out.cell (World.block_lt_of_cell? w _ hw423_0)).trans hw423_0))⟩ (fun hHeld => ?_)
        clear hK K
        refine norm_ (a' := ?_) ?_ ?_
        rotate_left
        ·
         show Act.put _ (some 26) _ = _
         simp only [Act.put, List.setIfInBounds_toArray, List.set_cons_zero, List.set_cons_succ, i64_w, i32_w]; rfl
        refine one_ (i := 13) (N := some 27) #[true, true, true, true, true, true, true, true, true, true, true, true, true, true, false] rfl rfl (one_of HT_.out (by kernel_rfl)) (by decide) (fun K hK => ?_)
        refine Kd.R_append_step k37 (w0 := w) w.heap.size (by rfl) (.tmp 14) (.tmp 26) 51 37 (.agg #[(.int .i64 0), (.int .i64 0)]) 16 rfl Try.underlying51 info37 rfl (by decide) (by omega) u3 x3_1 (⟨t424, t425⟩ : S37) [.int .i64 t424, .int .i64 t425] (fun _ => True) (fun _ => False) rfl rfl ?aP (fun _ hk => hk.elim) ?aF ?aO ?aB ?aS ?aL ?_
        (case aP => exact k37_mkM _ _ _ (⟨t424, t425⟩ : S37))
        (case aB => exact (zb1 HB))
        (case aF => exact (fun _ _ => trivial))
        (case aO => exact (zq3 HO_3))
        (case aS => exact (below_size (zb1 HB)))
        (case aL => have := LMc9.out; omega)
        intro v427 w12 ho hb hg hat
        rw [← Ny426.out] at ho
        have n0_ := Aside0.mk (blk_grown (g := gb421) (o := .cells #[.int .i64 a0_0, .slice (some ad422) l0_1.length c0_1, .slice (some ad423) l0_2.length c0_2] 27 (0, 0)) (zq1 BK421) hg (Kd.R_ne HO_3.out BK421.out (by decide)))
        have n1_ := Aside0.mk (hb)
        have HO428 := Aside0.mk (ho)
        clear BK421 HB HO_3
        have BK421 := n0_; have HB := n1_
        clear n0_ n1_ ho hb hg hat
        refine hK.out _ _ ⟨zc BK421 0, zc BK421 1, zc BK421 2, ((HB.out.cell (World.block_lt_of_cell? w _ hw423_0)).trans hw423_0)⟩ (fun hHeld => ?_)
        clear hK K
        refine norm_ (a' := ?_) ?_ ?_
        rotate_left
        ·
         show Act.put _ (some 27) _ = _
         simp only [Act.put, List.setIfInBounds_toArray, List.set_cons_zero, List.set_cons_succ, i64_w, i32_w]; rfl
        refine zp (i := 14) (N := some 3) #[true, true, true, true, true, true, true, true, true, true, true, true, true, true, true] (any_of HT_.out (by kernel_rfl)) ?_
        refine done_ (done_of HT_.out (by kernel_rfl)) ?_
        try go_wp2
        go_roundg k1
        case measure => have := HK1.out; omega
        case rel => exact ⟨(y426), (wrap64 (x9_1 + 1)), (by first | rfl | (simp; done) | (simp [*]; done)), H', ⟨by have := HK1.out; omega⟩, ⟨by (with_reducible repeat (first | apply Kd.R_alloc | apply Kd.R_drewN | apply Kd.R_drew)); exact HO428.out⟩, ⟨by (with_reducible repeat (first | refine blk_drewN ?_ _ | refine blk_drew ?_ | refine blk_alloc ?_ _)); exact BK421.out⟩, ⟨(zb1 HB)⟩⟩
       ·
        rw [if_neg c9] at H
        exact absurd H (by simp)
      ·
       rw [if_neg c7] at H
       exact absurd H (by simp)
     ·
      rw [if_neg c6] at H
      exact absurd H (by simp)
    ·
     rw [if_neg c5] at H
     exact absurd H (by simp)
   ·
    rw [if_neg c4] at H
    have c4b0 : decide (x9_1 < (l0_1.length : Int)) = false := decide_eq_false c4
    clear c4
    obtain rfl := Option.some.inj H
    go_wp2
    go_ret
    exact ⟨_, by first | rfl | (simp [errW_none, errW_some] <;> rfl) | (simp [*, errW_none, errW_some] <;> rfl), by (with_reducible repeat (first | apply Kd.R_alloc | apply Kd.R_drewN | apply Kd.R_drew)); exact HO_3.out, (zb1 HB)⟩
end Go.Proofs.Ytgaoniapddpaaaa.PD
