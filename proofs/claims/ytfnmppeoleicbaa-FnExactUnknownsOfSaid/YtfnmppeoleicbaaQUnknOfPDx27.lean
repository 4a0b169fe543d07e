-- By wip/mk/drv.py
import Derived.Test.YtfnmppeoleicbaaQUnknOfPDx0
import Derived.Test.YtfnmppeoleicbaaQUnknOfPDx1
import Derived.Test.YtfnmppeoleicbaaQUnknOfPDx9
import Derived.Test.YtfnmppeoleicbaaQUnknOfPDx24
namespace Go.Proofs.Ytfnmppeoleicbaa.PD
open Go.RowKit Go.Proofs.YtfnmppeoleicbaaW.PrintWords Go.Proofs.YtfnmppeoleicbaaW.PrintLast Go.Proofs.YtfnmppeoleicbaaW.PrintMore
attribute [local go_sem] max2_int min2_int max_two min_two max_three min_three max_four min_four
set_option linter.unusedVariables false
set_option linter.unusedSimpArgs false
/-! ### impl_UnknownsOf: function 30 -/
-- PROOF
set_option maxHeartbeats 8000000 in
set_option maxRecDepth 100000 in
theorem impl_UnknownsOf.clos (c x y z : Int) (g : Nat) (u : Int) (w : World) (hG : w.heap[g]? = some (.cells #[.int .i64 u] 3 (0, 0))) (h0 : 0 ≤ u) (h2 : u ≤ 2) :
  Calls Try.prog 66 #[.agg #[.int .i64 c, .int .i64 x, .int .i64 y, .int .i64 z], .pointer (some ⟨g, 0, none⟩)] w fun e w' => e = .returned (.bool (decide (impl_DegreeIn.pw ⟨c, x, y, z⟩ u > 0))) ∧ Below w.heap.size w w' := by
 have hu55 := Try.underlying55
 have HB := Aside0.mk (Below.refl w.heap.size w)
 have BKG := Aside0.mk hG
 have hcase : u = 0 ∨ u = 1 ∨ u = 2 := by omega
 have hi0 := impl_DegreeIn.ix0
 have hi1 := impl_DegreeIn.ix1
 have hi2 := impl_DegreeIn.ix2
 clear hG h0 h2
 rcases hcase with rfl | rfl | rfl
 all_goals (
  go_enter Try.func66, Try.ntmps66
  go_wp2_with ((with_reducible refine gate_dst (N := 2) rfl ?_); refine zbe (N := 2) (cs := #[.int .i64 c, .int .i64 x, .int .i64 y, .int .i64 z]) (t := 55) ?_; intro gb2 hg w2 hbox hb; have BK2 := Aside0.mk hbox; have GW2 := Aside0.mk (zge (zb0 HB) hg); replace BKG := Aside0.mk (zbb BKG hb); replace HB := Aside0.mk (below_step (zb0 HB) hb); clear hb hbox hg)
  replace HB := Aside0.mk (below_drew1 HB.out)
  replace BKG := Aside0.mk (blk_drew BKG.out)
  replace BK2 := Aside0.mk (blk_drew BK2.out)
  refine start_ (n := 6) (S := fun w' => w'.cell? ⟨gb2, 0, none⟩ = some (.int .i64 c) ∧ w'.cell? ⟨gb2, 1, none⟩ = some (.int .i64 x) ∧ w'.cell? ⟨gb2, 2, none⟩ = some (.int .i64 y) ∧ w'.cell? ⟨gb2, 3, none⟩ = some (.int .i64 z) ∧ w'.cell? ⟨g, 0, none⟩ = some (.int .i64 _)) (ds := []) #[false, false, false, false, false, false] (by kernel_rfl) rfl rfl ⟨zc BK2 0, zc BK2 1, zc BK2 2, zc BK2 3, zc BKG 0⟩ (fun hHeld => ?_)
  generalize w2.drew = w3 at HB BKG BK2 hHeld ⊢
  refine take_ (i := 0) (N := some 4) (v := ?_) (a' := ?_) #[true, false, false, false, false, false] rfl rfl (by kernel_rfl) (fun _ _ _ h => h) (Or.inl ⟨by rfl, ?_⟩) hHeld ?_ ?_
  rotate_left
  ·
   rintro w' ⟨s0, s1, s2, s3, s4⟩
   go_simp
   with_reducible rfl
  rotate_left
  ·
   simp only [Act.put, List.setIfInBounds_toArray, List.set_cons_zero, List.set_cons_succ, i64_w, i32_w]; rfl
  refine take_ (i := 2) (N := some 6) (v := ?_) (a' := ?_) #[true, false, true, false, false, false] rfl rfl (by kernel_rfl) (fun _ _ _ h => h) (Or.inl ⟨by rfl, ?_⟩) hHeld ?_ ?_
  rotate_left
  ·
   rintro w' ⟨s0, s1, s2, s3, s4⟩
   go_simp
   with_reducible rfl
  rotate_left
  ·
   simp only [Act.put, List.setIfInBounds_toArray, List.set_cons_zero, List.set_cons_succ, i64_w, i32_w]; rfl
  refine one_ (i := 1) (N := (some 5)) #[true, true, true, false, false, false] rfl rfl (by kernel_rfl) (by decide) (fun K hK => ?_)
  refine goes_ Try.func61 (by kernel_rfl) rfl #[.agg #[.int .i64 c, .int .i64 x, .int .i64 y, .int .i64 z]] (by rfl) rfl rfl zq6 ?_
  refine (impl_DegreeIn.exps c x y z _).mono ?_
  rintro e wn ⟨rfl, hb⟩
  refine ⟨_, rfl, ?_⟩
  replace BKG := Aside0.mk (zbb BKG hb); replace BK2 := Aside0.mk (zbb BK2 hb); replace HB := Aside0.mk (below_step (zb1 HB) hb)
  clear hb
  refine hK.out _ _ ⟨zc BK2 0, zc BK2 1, zc BK2 2, zc BK2 3, zc BKG 0⟩ (fun hHeld => ?_)
  clear hK K
  refine norm_ (a' := ?_) ?_ ?_
  rotate_left
  ·
   show Act.put _ (some 5) _ = _
   simp only [Act.put, List.setIfInBounds_toArray, List.set_cons_zero, List.set_cons_succ, i64_w, i32_w]; rfl
  refine zp (i := 3) (N := some 7) #[true, true, true, true, false, false] (by kernel_rfl) ?_
  refine zp (i := 4) (N := some 8) #[true, true, true, true, true, false] (by kernel_rfl) ?_
  refine zp (i := 5) (N := some 3) #[true, true, true, true, true, true] (by kernel_rfl) ?_
  refine done_ (by kernel_rfl) ?_
  go_wp2
  go_ret
  exact ⟨by first | rfl | (simp; done) | (simp [*]; done), (zb1 HB)⟩)
set_option maxHeartbeats 8000000 in
set_option maxRecDepth 100000 in
theorem impl_UnknownsOf.index (k : Nat) (A0 : Option Addr) (c0 : Nat) (l0 : List S55) (g : Nat) (u r : Int) (w : World) (hr0 : Kd.C k55 w A0 l0.length l0) (hG : w.heap[g]? = some (.cells #[.int .i64 u] 3 (0, 0))) (h0 : 0 ≤ u) (h2 : u ≤ 2) (h : impl_UnknownsOf.ix k l0 u 0 = some r) :
  Calls Try.prog 93 #[.slice A0 l0.length c0, .func (.func 66) #[] #[.pointer (some ⟨g, 0, none⟩)]] w fun e w' => e = .returned (.int .i64 r) ∧ Below w.heap.size w w' := by
 have hu55 := Try.underlying55
 have HR0 := Aside0.mk hr0
 have HB := Aside0.mk (Below.refl w.heap.size w)
 have BKG := Aside0.mk hG
 have H' := Aside0.mk h
 clear hr0 hG h
 go_enter Try.func93, Try.ntmps93
 go_wp2
 go_loopg [8] k (fun kq v8 w' => ∃ (i : Int), v8 = .int .i64 i ∧ Aside0 (impl_UnknownsOf.ix kq l0 u i = some r) ∧ Aside0 (kq ≤ k) ∧ Aside0 (w'.heap[g]? = some (.cells #[.int .i64 u] 3 (0, 0))) ∧ Aside0 (Below w.heap.size w w'))
 case atStart => exact ⟨0, (by first | rfl | (simp; done) | (simp [*]; done)), H', ⟨Nat.le_refl _⟩, ⟨zq1 BKG⟩, ⟨(zb0 HB)⟩⟩
 case round =>
  clear H' HB BKG
  obtain ⟨i, rfl, HA, HK1, BKG, HB⟩ := hrel
  cases gk with
  | zero => exact absurd HA.out (by simp [impl_UnknownsOf.ix])
  | succ k1 =>
   have H := HA.out
   clear HA
   simp only [impl_UnknownsOf.ix] at H
   by_cases c : i < (l0.length : Int)
   ·
    rw [if_pos c] at H
    by_cases c' : 0 ≤ i
    ·
     rw [if_pos c'] at H
     have cb := decide_eq_true c
     have cb' := decide_eq_true c'
     obtain ⟨ad, ead, hx0, hx1, hx2, hx3⟩ := at_T55 HR0.out i c' c
     subst ead
     replace hx0 := (HB.out.cell (World.block_lt_of_cell? w _ hx0)).trans hx0
     replace hx1 := (HB.out.cell (World.block_lt_of_cell? w _ hx1)).trans hx1
     replace hx2 := (HB.out.cell (World.block_lt_of_cell? w _ hx2)).trans hx2
     replace hx3 := (HB.out.cell (World.block_lt_of_cell? w _ hx3)).trans hx3
     have p1 := eq_true c
     have p2 := eq_true c'
     clear c c'
     by_cases cg : impl_DegreeIn.pw (rd_T55 l0 i) u > 0
     ·
      rw [if_pos cg] at H
      obtain rfl := Option.some.inj H
      have cgb := decide_eq_true cg
      go_wp2_with (go_at_call 66; refine (impl_UnknownsOf.clos (rd_T55 l0 i).f0 (rd_T55 l0 i).f1 (rd_T55 l0 i).f2 (rd_T55 l0 i).f3 g u _ (zq1 BKG) h0 h2).mono ?_; rintro e w6 ⟨rfl, hb⟩; replace BKG := Aside0.mk (zbb BKG hb); replace HB := Aside0.mk (below_step (zb0 HB) hb); clear hb)
      go_ret
      exact ⟨by first | rfl | (simp; done) | (simp [*]; done), (zb1 HB)⟩
     ·
      rw [if_neg cg] at H
      have H' := Aside0.mk H
      have cgb := decide_eq_false cg
      clear H
      go_wp2_with (go_at_call 66; refine (impl_UnknownsOf.clos (rd_T55 l0 i).f0 (rd_T55 l0 i).f1 (rd_T55 l0 i).f2 (rd_T55 l0 i).f3 g u _ (zq1 BKG) h0 h2).mono ?_; rintro e w6 ⟨rfl, hb⟩; replace BKG := Aside0.mk (zbb BKG hb); replace HB := Aside0.mk (below_step (zb0 HB) hb); clear hb)
      go_roundg k1
      case measure => have := HK1.out; omega
      case rel => exact ⟨(wrap64 (i + 1)), (by first | rfl | (simp; done) | (simp [*]; done)), H', ⟨by have := HK1.out; omega⟩, ⟨zq1 BKG⟩, ⟨(zb0 HB)⟩⟩
    ·
     rw [if_neg c'] at H; cases H
   ·
    rw [if_neg c] at H
    obtain rfl := Option.some.inj H
    have cb := decide_eq_false c
    clear c
    go_wp2
    go_ret
    exact ⟨by first | rfl | (simp; done) | (simp [*]; done), (zb1 HB)⟩
theorem impl_UnknownsOf.cont (k : Nat) (A0 : Option Addr) (c0 : Nat) (l0 : List S55) (g : Nat) (u r : Int) (w : World) (hr0 : Kd.C k55 w A0 l0.length l0) (hG : w.heap[g]? = some (.cells #[.int .i64 u] 3 (0, 0))) (h0 : 0 ≤ u) (h2 : u ≤ 2) (h : impl_UnknownsOf.ix k l0 u 0 = some r) :
  Calls Try.prog 65 #[.slice A0 l0.length c0, .func (.func 66) #[] #[.pointer (some ⟨g, 0, none⟩)]] w fun e w' => e = .returned (.bool (decide (r ≥ 0))) ∧ Below w.heap.size w w' := by
 have HB := Aside0.mk (Below.refl w.heap.size w)
 go_enter Try.func65, Try.ntmps65
 go_wp2_with (go_at_call 93; refine (impl_UnknownsOf.index k _ _ l0 g u r _ hr0 hG h0 h2 h).mono ?_; rintro e w6 ⟨rfl, hb⟩; replace HB := Aside0.mk (below_step (zb0 HB) hb); clear hb)
 go_ret
 exact ⟨by first | rfl | (simp; done) | (simp [*]; done), (zb1 HB)⟩
set_option maxHeartbeats 8000000 in
set_option maxRecDepth 100000 in
theorem impl_UnknownsOf.calls (k : Nat) (A0 : Option Addr) (c0 : Nat) (l0 : List (S55)) (r1 : List Int) (r2 : Bool) (w : World) (hr0 : Kd.C k55 w A0 l0.length l0) (hc0 : l0.length ≤ c0) (h : impl_UnknownsOf.f k l0 = some (r1, r2)) :
  Calls Try.prog 30 #[.slice A0 l0.length c0] w fun e w' => ∃ v0_ : Value, e = .returned (.tuple #[v0_, .bool r2]) ∧ Kd.R (Kd.int .i64) 3 w' w.heap.size (fun _ => True) v0_ r1 ∧ Below w.heap.size w w' := by
 have hu55 := Try.underlying55
 have HR0 := Aside0.mk hr0
 have HC0 := Aside0.mk hc0
 have HB := Aside0.mk (Below.refl w.heap.size w)
 clear hr0 hc0
 unfold impl_UnknownsOf.f at h
 obtain ⟨b1, hA0, h⟩ := Option.bind_eq_some_iff.mp h
 have hA := Aside0.mk hA0
 clear hA0
 cases b1
 ·
  rw [if_neg Bool.false_ne_true] at h
  simp only [Option.some.injEq, Prod.mk.injEq] at h
  obtain ⟨rfl, rfl⟩ := h
  go_enter Try.func30, Try.ntmps30
  go_wp2_with (((with_reducible refine gate_callee (f := 55) rfl ?_); refine goesL_ (some 7) rfl rfl Try.func55 (by kernel_rfl) rfl #[.slice A0 l0.length c0] rfl zq6 ?_; refine (impl_isPoly.calls k _ _ l0 _ _ HR0.out HC0.out hA.out).mono ?_; rintro e w4 ⟨rfl, hb⟩; refine ⟨_, rfl, ?_⟩; replace HB := Aside0.mk (below_step (zb0 HB) hb); clear hb))
  go_ret2
  exact ⟨_, by first | rfl | (simp; done) | (simp [*]; done), Kd.R_nil _ _ _ _ _, (zb1 HB)⟩
 ·
  rw [if_pos rfl] at h
  have H' := Aside0.mk h
  clear h
  go_enter Try.func30, Try.ntmps30
  go_wp2_with (((with_reducible refine gate_callee (f := 55) rfl ?_); refine goesL_ (some 7) rfl rfl Try.func55 (by kernel_rfl) rfl #[.slice A0 l0.length c0] rfl zq6 ?_; refine (impl_isPoly.calls k _ _ l0 _ _ HR0.out HC0.out hA.out).mono ?_; rintro e w4 ⟨rfl, hb⟩; refine ⟨_, rfl, ?_⟩; replace HB := Aside0.mk (below_step (zb0 HB) hb); clear hb))
  go_loopg [4, 9] k (fun kq v4 v9 w' => ∃ (xs : List Int) (i : Int), v9 = .int .i64 i ∧ Aside0 (impl_UnknownsOf.l0 kq l0 xs i = some (r1, r2)) ∧ Aside0 (kq ≤ k) ∧ Aside0 (Kd.R (Kd.int .i64) 3 w' w.heap.size (fun _ => True) v4 xs) ∧ Aside0 (Below w.heap.size w w'))
  case atStart => exact ⟨[], 0, (by first | rfl | (simp; done) | (simp [*]; done)), H', ⟨Nat.le_refl _⟩, ⟨Kd.R_nil _ _ _ _ _⟩, ⟨(zb0 HB)⟩⟩
  case round =>
   clear H' HB
   obtain ⟨xs, i, rfl, HA, HK1, HO, HB⟩ := hrel
   cases gk with
   | zero => exact absurd HA.out (by simp [impl_UnknownsOf.l0])
   | succ k1 =>
    have H := HA.out
    clear HA
    simp only [impl_UnknownsOf.l0] at H
    by_cases c : i < 3
    ·
     rw [if_pos c] at H
     by_cases c' : 0 ≤ i
     ·
      rw [if_pos c'] at H
      obtain ⟨t, hI0, H⟩ := Option.bind_eq_some_iff.mp H
      have hI := Aside0.mk hI0
      clear hI0
      have cb := decide_eq_true c
      by_cases ct : t ≥ 0
      ·
       rw [if_pos ct] at H
       by_cases cl : xs.length < 17592186044416
       ·
        rw [if_pos cl] at H
        obtain ⟨ys, hys⟩ : ∃ y_ : List Int, y_ = xs ++ [i] := ⟨_, rfl⟩
        rw [← hys] at H
        have NY := Aside0.mk hys
        have LM := Aside0.mk cl
        have H' := Aside0.mk H
        have ctb := decide_eq_true ct
        clear H hys cl
        go_wp2_with (first | ((with_reducible refine gate_dst (N := 5) rfl ?_); refine zbe (N := 5) (cs := #[.int .i64 0]) (t := 3) ?_; intro gb5 hg w5 hbox hb; have BK5 := Aside0.mk hbox; have GW5 := Aside0.mk (zge (zb0 HB) hg); replace HO := Aside0.mk (Kd.R_below (Kd.R_elderB (zq3 HO) gb5 (Nat.le_of_eq hg.symm)) hb); replace HB := Aside0.mk (below_step (zb0 HB) hb); clear hb hbox hg; have hcz5_0 : w5.cell? ⟨gb5, 0, none⟩ = some (.int .i64 0) := zc BK5 0; have hfz5_0 := blk_frozen BK5.out 0) | (go_at_call 65; refine (impl_UnknownsOf.cont k1 _ _ l0 gb5 _ t _ (Kd.C_below HR0.out (zb1 HB)) (by exact blk_put (cs := #[.int .i64 0]) BK5.out 0 _ rfl) (by omega) (by omega) hI.out).mono ?_; rintro e w6 ⟨rfl, hb⟩; have BX5 := blk_below (blk_put (cs := #[.int .i64 0]) BK5.out 0 (.int .i64 i) rfl) hb; have HX := Kd.R_below (Kd.R_far (p := ⟨gb5, 0, none⟩) HO.out (fun _ hk => hk.2) (.int .i64 i)) hb; replace HB := Aside0.mk (below_step (zb1 HB) hb); clear hcz5_0 hfz5_0 BK5 HO hb; have BK5 := Aside0.mk BX5; have HO := Aside0.mk (Kd.R_mono HX (fun _ _ => trivial) : Kd.R (Kd.int .i64) 3 w6 w.heap.size (fun _ => True) _ xs); clear BX5 HX; have hd5 : w6.cell? ⟨gb5, 0, none⟩ = some (.int .i64 i) := zc BK5 0) | ((with_reducible refine gate_builtin (b := .append) (xs := #[.tmp 15, .tmp 17]) rfl ?_); at_builtin; refine Kd.R_append (Kd.int .i64) (w0 := w) w.heap.size rfl (.tmp 15) (.tmp 17) 36 3 (.int .i64 0) 8 rfl Try.underlying36 info3 rfl (by decide) (by omega) u4 xs i [.int .i64 i] (fun _ => True) (fun _ => False) rfl (by first | (go_simp; done) | (go_simp; rfl)) ?aP (fun _ hk => hk.elim) ?aF ?aO ?aB ?aS ?aL ?_; (case aP => exact rfl); (case aB => exact (zb1 HB)); (case aF => exact (fun _ _ => trivial)); (case aO => exact (zq3 HO)); (case aS => exact (below_size (zb1 HB))); (case aL => have := LM.out; omega); intro v43 wy ho hb hg hat; rw [← NY.out] at ho; have HO' := Aside0.mk ho; replace HB := Aside0.mk hb; clear ho hb hg hat))
        go_roundg k1
        case measure => have := HK1.out; omega
        case rel => exact ⟨ys, (wrap64 (i + 1)), (by first | rfl | (rw [show wrap64 (i + 1) = i + 1 by unfold wrap64; omega]; done) | (rw [show wrap64 (i + 1) = i + 1 by unfold wrap64; omega]) | (simp; done)), H', ⟨by have := HK1.out; omega⟩, ⟨zq3 HO'⟩, ⟨(zb1 HB)⟩⟩
       ·
        rw [if_neg cl] at H; cases H
      ·
       rw [if_neg ct] at H
       have H' := Aside0.mk H
       have ctb := decide_eq_false ct
       clear H
       go_wp2_with (first | ((with_reducible refine gate_dst (N := 5) rfl ?_); refine zbe (N := 5) (cs := #[.int .i64 0]) (t := 3) ?_; intro gb5 hg w5 hbox hb; have BK5 := Aside0.mk hbox; have GW5 := Aside0.mk (zge (zb0 HB) hg); replace HO := Aside0.mk (Kd.R_below (Kd.R_elderB (zq3 HO) gb5 (Nat.le_of_eq hg.symm)) hb); replace HB := Aside0.mk (below_step (zb0 HB) hb); clear hb hbox hg; have hcz5_0 : w5.cell? ⟨gb5, 0, none⟩ = some (.int .i64 0) := zc BK5 0; have hfz5_0 := blk_frozen BK5.out 0) | (go_at_call 65; refine (impl_UnknownsOf.cont k1 _ _ l0 gb5 _ t _ (Kd.C_below HR0.out (zb1 HB)) (by exact blk_put (cs := #[.int .i64 0]) BK5.out 0 _ rfl) (by omega) (by omega) hI.out).mono ?_; rintro e w6 ⟨rfl, hb⟩; have BX5 := blk_below (blk_put (cs := #[.int .i64 0]) BK5.out 0 (.int .i64 i) rfl) hb; have HX := Kd.R_below (Kd.R_far (p := ⟨gb5, 0, none⟩) HO.out (fun _ hk => hk.2) (.int .i64 i)) hb; replace HB := Aside0.mk (below_step (zb1 HB) hb); clear hcz5_0 hfz5_0 BK5 HO hb; have BK5 := Aside0.mk BX5; have HO := Aside0.mk (Kd.R_mono HX (fun _ _ => trivial) : Kd.R (Kd.int .i64) 3 w6 w.heap.size (fun _ => True) _ xs); clear BX5 HX; have hd5 : w6.cell? ⟨gb5, 0, none⟩ = some (.int .i64 i) := zc BK5 0))
       go_roundg k1
       case measure => have := HK1.out; omega
       case rel => exact ⟨xs, (wrap64 (i + 1)), (by first | rfl | (rw [show wrap64 (i + 1) = i + 1 by unfold wrap64; omega]; done) | (rw [show wrap64 (i + 1) = i + 1 by unfold wrap64; omega]) | (simp; done)), H', ⟨by have := HK1.out; omega⟩, ⟨zq3 HO⟩, ⟨(zb1 HB)⟩⟩
     ·
      rw [if_neg c'] at H; cases H
    ·
     rw [if_neg c] at H
     simp only [Option.some.injEq, Prod.mk.injEq] at H
     obtain ⟨rfl, rfl⟩ := H
     have cb := decide_eq_false c
     clear c
     go_wp2
     go_ret2
     exact ⟨_, by first | rfl | (simp; done) | (simp [*]; done), zq3 HO, (zb1 HB)⟩
end Go.Proofs.Ytfnmppeoleicbaa.PD
