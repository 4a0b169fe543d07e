-- By wip/mk/drv.py
import Derived.Test.YtgaoniapddpaaaaQBoxOOfPDx0
import Derived.Test.YtgaoniapddpaaaaQBoxOOfPDx1
import Derived.Test.YtgaoniapddpaaaaQBoxOOfPDx2
import Derived.Test.YtgaoniapddpaaaaQBoxOOfPDx45
namespace Go.Proofs.Ytgaoniapddpaaaa.PD
open Go.RowKit Go.Proofs.YtgaoniapddpaaaaW.PrintWords Go.Proofs.YtgaoniapddpaaaaW.PrintLast Go.Proofs.YtgaoniapddpaaaaW.PrintMore
attribute [local go_sem] max2_int min2_int max_two min_two max_three min_three max_four min_four
set_option linter.unusedVariables false
set_option linter.unusedSimpArgs false
/-! ### impl_BoxOf: function 30 -/
-- PROOF
set_option maxHeartbeats 8000000 in
theorem impl_BoxOf.clos (n : Int) (w : World) : Calls Try.prog 76 #[.int .i64 n] w fun e w' => e = .returned (.bool (impl_BoxOf.p n)) ∧ Below w.heap.size w w' := by
 have HB := Aside0.mk (Below.refl w.heap.size w)
 obtain ⟨t, ht⟩ : ∃ t, impl_inside.f n (-1099511627776) 1099511627776 = some t := by unfold impl_inside.f; split <;> exact ⟨_, rfl⟩
 have hp : impl_BoxOf.p n = !t := by unfold impl_BoxOf.p; rw [ht]; rfl
 rw [hp]
 have A := Aside0.mk ht
 clear ht hp
 go_enter Try.func76, Try.ntmps76
 go_wp2_with (go_at_call 73; refine (impl_inside.calls n (-1099511627776) 1099511627776 t _ A.out).mono ?_; rintro e w' ⟨rfl, ⟨nd, rfl⟩⟩)
 go_ret
 exact ⟨by first | rfl | (simp; done) | (simp [*]; done), (zb0 HB)⟩
set_option maxHeartbeats 8000000 in
theorem impl_BoxOf.index (k : Nat) (A0 : Option Addr) (c0 : Nat) (l0 : List Int) (r : Int) (w : World) (hr0 : Kd.C (Kd.int .i64) w A0 l0.length l0) (h : impl_BoxOf.ix k l0 0 = some r) :
  Calls Try.prog 98 #[.slice A0 l0.length c0, .func (.func 76) #[] #[]] w fun e w' => e = .returned (.int .i64 r) ∧ Below w.heap.size w w' := by
 have HR0 := Aside0.mk hr0
 have HB := Aside0.mk (Below.refl w.heap.size w)
 have H' := Aside0.mk h
 clear hr0 h
 go_enter Try.func98, Try.ntmps98
 go_wp2
 go_loopg [8] k (fun kq v8 w' => ∃ (i : Int), v8 = .int .i64 i ∧ Aside0 (impl_BoxOf.ix kq l0 i = some r) ∧ Aside0 (kq ≤ k) ∧ Aside0 (Below w.heap.size w w'))
 case atStart => exact ⟨0, (by first | rfl | (simp; done) | (simp [*]; done)), H', ⟨Nat.le_refl _⟩, ⟨(zb0 HB)⟩⟩
 case round =>
  clear H' HB
  obtain ⟨i, rfl, HA, HK1, HB⟩ := hrel
  cases gk with
  | zero => exact absurd HA.out (by simp [impl_BoxOf.ix])
  | succ k1 =>
   have H := HA.out
   clear HA
   simp only [impl_BoxOf.ix] at H
   by_cases c : i < (l0.length : Int)
   ·
    rw [if_pos c] at H
    by_cases c' : 0 ≤ i
    ·
     rw [if_pos c'] at H
     have cb := decide_eq_true c
     have cb' := decide_eq_true c'
     obtain ⟨ad, ead, hx0⟩ := Kd.at_int HR0.out i c' c
     subst ead
     replace hx0 := (HB.out.cell (World.block_lt_of_cell? w _ hx0)).trans hx0
     have p1 := eq_true c
     have p2 := eq_true c'
     clear c c'
     by_cases cg : impl_BoxOf.p (rd l0 i) = true
     ·
      rw [if_pos cg] at H
      obtain rfl := Option.some.inj H
      go_wp2_with (go_at_call 76; refine (impl_BoxOf.clos (rd l0 i) _).mono ?_; rintro e w6 ⟨rfl, hb⟩; replace HB := Aside0.mk (below_step (zb0 HB) hb); clear hb)
      go_ret
      exact ⟨by first | rfl | (simp; done) | (simp [*]; done), (zb1 HB)⟩
     ·
      rw [if_neg cg] at H
      have H' := Aside0.mk H
      replace cg := Bool.eq_false_iff.mpr cg
      clear H
      go_wp2_with (go_at_call 76; refine (impl_BoxOf.clos (rd l0 i) _).mono ?_; rintro e w6 ⟨rfl, hb⟩; replace HB := Aside0.mk (below_step (zb0 HB) hb); clear hb)
      go_roundg k1
      case measure => have := HK1.out; omega
      case rel => exact ⟨(wrap64 (i + 1)), (by first | rfl | (simp; done) | (simp [*]; done)), H', ⟨by have := HK1.out; omega⟩, ⟨(zb0 HB)⟩⟩
    ·
     rw [if_neg c'] at H; cases H
   ·
    rw [if_neg c] at H
    obtain rfl := Option.some.inj H
    have cb := decide_eq_false c
    clear c
    go_wp2
    go_ret
    exact ⟨by first | rfl | (simp; done) | (simp [*]; done), (zb1 HB)⟩
theorem impl_BoxOf.cont (k : Nat) (A0 : Option Addr) (c0 : Nat) (l0 : List Int) (r : Int) (w : World) (hr0 : Kd.C (Kd.int .i64) w A0 l0.length l0) (h : impl_BoxOf.ix k l0 0 = some r) :
  Calls Try.prog 74 #[.slice A0 l0.length c0, .func (.func 76) #[] #[]] w fun e w' => e = .returned (.bool (decide (r ≥ 0))) ∧ Below w.heap.size w w' := by
 have HB := Aside0.mk (Below.refl w.heap.size w)
 go_enter Try.func74, Try.ntmps74
 go_wp2_with (go_at_call 98; refine (impl_BoxOf.index k _ _ l0 r _ hr0 h).mono ?_; rintro e w6 ⟨rfl, hb⟩; replace HB := Aside0.mk (below_step (zb0 HB) hb); clear hb)
 go_ret
 exact ⟨by first | rfl | (simp; done) | (simp [*]; done), (zb1 HB)⟩
set_option maxHeartbeats 8000000 in
set_option maxRecDepth 100000 in
theorem impl_BoxOf.calls (k : Nat) (a0 : Int) (A1 : Option Addr) (c1 : Nat) (l1 : List Int) (A2 : Option Addr) (c2 : Nat) (l2 : List Int) (r1 : Int) (r2 : List Int) (r3 : List Int) (r4 : Bool) (w : World) (hr1 : Kd.C (Kd.int .i64) w A1 l1.length l1) (hc1 : l1.length ≤ c1) (hr2 : Kd.C (Kd.int .i64) w A2 l2.length l2) (hc2 : l2.length ≤ c2) (h : impl_BoxOf.f k a0 l1 l2 = some (r1, r2, r3, r4)) :
  Calls Try.prog 30 #[.int .i64 a0, .slice A1 l1.length c1, .slice A2 l2.length c2] w fun e w' => ∃ v1_ v2_ : Value, e = .returned (.tuple #[.agg #[.int .i64 r1, v1_, v2_], .bool r4]) ∧ Kd.R (Kd.int .i64) 3 w' w.heap.size (fun k_ => some k_ ≠ (v2_ : Value).ownBlock) v1_ r2 ∧ Kd.R (Kd.int .i64) 3 w' w.heap.size (fun k_ => some k_ ≠ (v1_ : Value).ownBlock) v2_ r3 ∧ Below w.heap.size w w' := by
 have hu27 := Try.underlying27
 have HR1 := Aside0.mk hr1
 have HR2 := Aside0.mk hr2
 have HC1 := Aside0.mk hc1
 have HC2 := Aside0.mk hc2
 have HB := Aside0.mk (Below.refl w.heap.size w)
 clear hr1 hc1 hr2 hc2
 unfold impl_BoxOf.f at h
 obtain ⟨b1, hA0, h⟩ := Option.bind_eq_some_iff.mp h
 have A := Aside0.mk hA0
 clear hA0
 cases b1
 ·
  rw [if_neg Bool.false_ne_true] at h
  simp only [Option.some.injEq, Prod.mk.injEq] at h
  obtain ⟨rfl, rfl, rfl, rfl⟩ := h
  go_enter Try.func30, Try.ntmps30
  go_wp2_with (first | ((with_reducible refine gate_dst (N := 6) rfl ?_); refine zbe (N := 6) (cs := #[.int .i64 0, .slice none 0 0, .slice none 0 0]) (t := 27) ?_; intro gb6 hg wb6 hbox hb; have BK6 := Aside0.mk hbox; have GW6 := Aside0.mk (zge (zb1 HB) hg); replace HB := Aside0.mk (below_step (zb1 HB) hb); clear hb hbox hg; have hcya_0 : wb6.cell? ⟨gb6, 0, none⟩ = some (.int .i64 0) := zc BK6 0; have hfya_0 := blk_frozen BK6.out 0; have hcya_1 : wb6.cell? ⟨gb6, 1, none⟩ = some (.slice none 0 0) := zc BK6 1; have hfya_1 := blk_frozen BK6.out 1; have hcya_2 : wb6.cell? ⟨gb6, 2, none⟩ = some (.slice none 0 0) := zc BK6 2; have hfya_2 := blk_frozen BK6.out 2) | (go_at_call 73; (with_reducible refine (impl_inside.calls a0 0 20 false _ A.out).mono ?_); rintro e w' ⟨rfl, ⟨nd, rfl⟩⟩; (try first | exact ⟨rfl, _, World.drewN_drewN _ _ _⟩ | exact ⟨rfl, _, Eq.trans (World.drewN_drewN _ _ _) (congrArg (World.drewN _) (Nat.add_assoc _ _ _))⟩)))
  refine bodyPost_ret (results_ct rfl _ _ gb6 27 #[.int .i64 0, .slice none 0 0, .slice none 0 0] (0, 0) _ rfl (by exact blk_put (cs := #[.int .i64 0, .slice none 0 0, .slice none 0 0]) (blk_put (cs := #[.int .i64 0, .slice none 0 0, .slice none 0 0]) (blk_put (cs := #[.int .i64 0, .slice none 0 0, .slice none 0 0]) BK6.out 0 _ rfl) 1 _ rfl) 2 _ rfl) Try.underlying27 rfl (by kernel_rfl)) rfl ?_
  exact ⟨_, _, by first | rfl | (simp; done) | (simp [*]; done), Kd.R_nil _ _ _ _ _, Kd.R_nil _ _ _ _ _, (zb1 HB)⟩
 ·
  rw [if_pos rfl] at h
  by_cases hl : l1.length + l2.length < 17592186044416
  ·
   rw [if_pos hl] at h
   have LM := Aside0.mk hl
   obtain ⟨M, hM0⟩ : ∃ M_ : List Int, M_ = l1 ++ l2 := ⟨_, rfl⟩
   rw [← hM0] at h
   have NM := Aside0.mk hM0
   obtain ⟨t, hI0, h⟩ := Option.bind_eq_some_iff.mp h
   have hI := Aside0.mk hI0
   clear hI0 hl hM0
   by_cases ct : t ≥ 0
   ·
    rw [if_pos ct] at h
    simp only [Option.some.injEq, Prod.mk.injEq] at h
    obtain ⟨rfl, rfl, rfl, rfl⟩ := h
    have ctb := decide_eq_true ct
    clear ct
    go_enter Try.func30, Try.ntmps30
    go_wp2_with (first | ((with_reducible refine gate_dst (N := 6) rfl ?_); refine zbe (N := 6) (cs := #[.int .i64 0, .slice none 0 0, .slice none 0 0]) (t := 27) ?_; intro gb6 hg wb6 hbox hb; have BK6 := Aside0.mk hbox; have GW6 := Aside0.mk (zge (zb1 HB) hg); replace HB := Aside0.mk (below_step (zb1 HB) hb); clear hb hbox hg; have hcya_0 : wb6.cell? ⟨gb6, 0, none⟩ = some (.int .i64 0) := zc BK6 0; have hfya_0 := blk_frozen BK6.out 0; have hcya_1 : wb6.cell? ⟨gb6, 1, none⟩ = some (.slice none 0 0) := zc BK6 1; have hfya_1 := blk_frozen BK6.out 1; have hcya_2 : wb6.cell? ⟨gb6, 2, none⟩ = some (.slice none 0 0) := zc BK6 2; have hfya_2 := blk_frozen BK6.out 2) | (go_at_call 73; (with_reducible refine (impl_inside.calls a0 0 20 true _ A.out).mono ?_); rintro e w' ⟨rfl, ⟨nd, rfl⟩⟩; (try first | exact ⟨rfl, _, World.drewN_drewN _ _ _⟩ | exact ⟨rfl, _, Eq.trans (World.drewN_drewN _ _ _) (congrArg (World.drewN _) (Nat.add_assoc _ _ _))⟩)) | (go_at_call 75; refine (impl_boxOf.concat _ _ c1 l1 _ c2 l2 _ (by exact blk_new _ _) (Kd.C_below HR1.out (zb1 HB)) (Kd.C_below HR2.out (zb1 HB)) LM.out).mono ?_; rintro e w5 ⟨v5, rfl, ho, hb⟩; rw [← NM.out] at ho; obtain ⟨o5, e5, eo5⟩ := Kd.R_slice ho; subst eo5; have HX := Aside0.mk (Kd.R_reads' ho).2.2; clear ho; replace BK6 := Aside0.mk (zbb BK6 hb); replace HB := Aside0.mk (below_step (zb1 HB) hb); clear hb; have hcyb_0 : w5.cell? ⟨gb6, 0, none⟩ = some (.int .i64 0) := zc BK6 0; have hfyb_0 := blk_frozen BK6.out 0; have hcyb_1 : w5.cell? ⟨gb6, 1, none⟩ = some (.slice none 0 0) := zc BK6 1; have hfyb_1 := blk_frozen BK6.out 1; have hcyb_2 : w5.cell? ⟨gb6, 2, none⟩ = some (.slice none 0 0) := zc BK6 2; have hfyb_2 := blk_frozen BK6.out 2) | (go_at_call 74; refine (impl_BoxOf.cont k _ _ M t _ HX.out hI.out).mono ?_; rintro e w6 ⟨rfl, hb⟩; replace BK6 := Aside0.mk (zbb BK6 hb); replace HB := Aside0.mk (below_step (zb1 HB) hb); clear hb; have hcyc_0 : w6.cell? ⟨gb6, 0, none⟩ = some (.int .i64 0) := zc BK6 0; have hfyc_0 := blk_frozen BK6.out 0; have hcyc_1 : w6.cell? ⟨gb6, 1, none⟩ = some (.slice none 0 0) := zc BK6 1; have hfyc_1 := blk_frozen BK6.out 1; have hcyc_2 : w6.cell? ⟨gb6, 2, none⟩ = some (.slice none 0 0) := zc BK6 2; have hfyc_2 := blk_frozen BK6.out 2))
    refine bodyPost_ret (results_ct rfl _ _ gb6 27 #[.int .i64 0, .slice none 0 0, .slice none 0 0] (0, 0) _ rfl (by exact blk_put (cs := #[.int .i64 0, .slice none 0 0, .slice none 0 0]) (blk_put (cs := #[.int .i64 0, .slice none 0 0, .slice none 0 0]) (blk_put (cs := #[.int .i64 0, .slice none 0 0, .slice none 0 0]) BK6.out 0 _ rfl) 1 _ rfl) 2 _ rfl) Try.underlying27 rfl (by kernel_rfl)) rfl ?_
    exact ⟨_, _, by first | rfl | (simp; done) | (simp [*]; done), Kd.R_nil _ _ _ _ _, Kd.R_nil _ _ _ _ _, (zb1 HB)⟩
   ·
    rw [if_neg ct] at h
    have hF := Aside0.mk h
    have ctb := decide_eq_false ct
    clear ct h
    go_enter Try.func30, Try.ntmps30
    go_wp2_with (first | ((with_reducible refine gate_dst (N := 6) rfl ?_); refine zbe (N := 6) (cs := #[.int .i64 0, .slice none 0 0, .slice none 0 0]) (t := 27) ?_; intro gb6 hg wb6 hbox hb; have BK6 := Aside0.mk hbox; have GW6 := Aside0.mk (zge (zb1 HB) hg); replace HB := Aside0.mk (below_step (zb1 HB) hb); clear hb hbox hg; have hcya_0 : wb6.cell? ⟨gb6, 0, none⟩ = some (.int .i64 0) := zc BK6 0; have hfya_0 := blk_frozen BK6.out 0; have hcya_1 : wb6.cell? ⟨gb6, 1, none⟩ = some (.slice none 0 0) := zc BK6 1; have hfya_1 := blk_frozen BK6.out 1; have hcya_2 : wb6.cell? ⟨gb6, 2, none⟩ = some (.slice none 0 0) := zc BK6 2; have hfya_2 := blk_frozen BK6.out 2) | (go_at_call 73; (with_reducible refine (impl_inside.calls a0 0 20 true _ A.out).mono ?_); rintro e w' ⟨rfl, ⟨nd, rfl⟩⟩; (try first | exact ⟨rfl, _, World.drewN_drewN _ _ _⟩ | exact ⟨rfl, _, Eq.trans (World.drewN_drewN _ _ _) (congrArg (World.drewN _) (Nat.add_assoc _ _ _))⟩)) | (go_at_call 75; refine (impl_boxOf.concat _ _ c1 l1 _ c2 l2 _ (by exact blk_new _ _) (Kd.C_below HR1.out (zb1 HB)) (Kd.C_below HR2.out (zb1 HB)) LM.out).mono ?_; rintro e w5 ⟨v5, rfl, ho, hb⟩; rw [← NM.out] at ho; obtain ⟨o5, e5, eo5⟩ := Kd.R_slice ho; subst eo5; have HX := Aside0.mk (Kd.R_reads' ho).2.2; clear ho; replace BK6 := Aside0.mk (zbb BK6 hb); replace HB := Aside0.mk (below_step (zb1 HB) hb); clear hb; have hcyb_0 : w5.cell? ⟨gb6, 0, none⟩ = some (.int .i64 0) := zc BK6 0; have hfyb_0 := blk_frozen BK6.out 0; have hcyb_1 : w5.cell? ⟨gb6, 1, none⟩ = some (.slice none 0 0) := zc BK6 1; have hfyb_1 := blk_frozen BK6.out 1; have hcyb_2 : w5.cell? ⟨gb6, 2, none⟩ = some (.slice none 0 0) := zc BK6 2; have hfyb_2 := blk_frozen BK6.out 2) | (go_at_call 74; refine (impl_BoxOf.cont k _ _ M t _ HX.out hI.out).mono ?_; rintro e w6 ⟨rfl, hb⟩; replace BK6 := Aside0.mk (zbb BK6 hb); replace HB := Aside0.mk (below_step (zb1 HB) hb); clear hb; have hcyc_0 : w6.cell? ⟨gb6, 0, none⟩ = some (.int .i64 0) := zc BK6 0; have hfyc_0 := blk_frozen BK6.out 0; have hcyc_1 : w6.cell? ⟨gb6, 1, none⟩ = some (.slice none 0 0) := zc BK6 1; have hfyc_1 := blk_frozen BK6.out 1; have hcyc_2 : w6.cell? ⟨gb6, 2, none⟩ = some (.slice none 0 0) := zc BK6 2; have hfyc_2 := blk_frozen BK6.out 2) | ((with_reducible refine gate_callee (f := 77) rfl ?_); refine goesL_ (some 22) rfl rfl Try.func77 (by kernel_rfl) rfl #[.int .i64 a0, .slice A1 l1.length c1, .slice A2 l2.length c2] rfl zq6 ?_; refine (impl_boxOf.calls k a0 A1 c1 l1 A2 c2 l2 r1 r2 r3 r4 _ (Kd.C_below HR1.out (zb1 HB)) HC1.out (Kd.C_below HR2.out (zb1 HB)) HC2.out hF.out).mono ?_; rintro e w9 ⟨v1, v2, rfl, ho1, ho2, hb⟩; refine ⟨_, rfl, ?_⟩; obtain ⟨o1, e1, eo1⟩ := Kd.R_slice ho1; subst eo1; obtain ⟨o2, e2, eo2⟩ := Kd.R_slice ho2; subst eo2; have HO1 := Aside0.mk (Kd.R_lower ho1 (below_size (zb1 HB))); have HO2 := Aside0.mk (Kd.R_lower ho2 (below_size (zb1 HB))); clear ho1 ho2; replace BK6 := Aside0.mk (zbb BK6 hb); replace HB := Aside0.mk (below_step (zb1 HB) hb); clear hb; have hcyd_0 : w9.cell? ⟨gb6, 0, none⟩ = some (.int .i64 0) := zc BK6 0; have hfyd_0 := blk_frozen BK6.out 0; have hcyd_1 : w9.cell? ⟨gb6, 1, none⟩ = some (.slice none 0 0) := zc BK6 1; have hfyd_1 := blk_frozen BK6.out 1; have hcyd_2 : w9.cell? ⟨gb6, 2, none⟩ = some (.slice none 0 0) := zc BK6 2; have hfyd_2 := blk_frozen BK6.out 2))
    refine bodyPost_ret (results_ct rfl _ _ gb6 27 #[.int .i64 r1, .slice o1 r2.length e1, .slice o2 r3.length e2] (0, 0) _ rfl (by exact blk_put (cs := #[.int .i64 r1, .slice o1 r2.length e1, .slice none 0 0]) (blk_put (cs := #[.int .i64 r1, .slice none 0 0, .slice none 0 0]) (blk_put (cs := #[.int .i64 0, .slice none 0 0, .slice none 0 0]) BK6.out 0 _ rfl) 1 _ rfl) 2 _ rfl) Try.underlying27 rfl (by kernel_rfl)) rfl ?_
    exact ⟨_, _, by first | rfl | (simp; done) | (simp [*]; done), (by (with_reducible repeat (first | apply Kd.R_alloc | apply Kd.R_drewN | apply Kd.R_drew)); exact Kd.R_mono (Kd.R_far (p := ⟨gb6, 2, none⟩) (Kd.R_far (p := ⟨gb6, 1, none⟩) (Kd.R_far (p := ⟨gb6, 0, none⟩) (Kd.R_types HO1.out BK6.out (by decide)) (fun _ hk => hk.2) (.int .i64 r1)) (fun _ hk => hk.2) (.slice o1 r2.length e1)) (fun _ hk => hk.2) (.slice o2 r3.length e2)) (fun _ hk => hk.1)), (by (with_reducible repeat (first | apply Kd.R_alloc | apply Kd.R_drewN | apply Kd.R_drew)); exact Kd.R_mono (Kd.R_far (p := ⟨gb6, 2, none⟩) (Kd.R_far (p := ⟨gb6, 1, none⟩) (Kd.R_far (p := ⟨gb6, 0, none⟩) (Kd.R_types HO2.out BK6.out (by decide)) (fun _ hk => hk.2) (.int .i64 r1)) (fun _ hk => hk.2) (.slice o1 r2.length e1)) (fun _ hk => hk.2) (.slice o2 r3.length e2)) (fun _ hk => hk.1)), (zb1 HB)⟩
  ·
   rw [if_neg hl] at h; cases h
end Go.Proofs.Ytgaoniapddpaaaa.PD
