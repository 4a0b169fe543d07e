-- By wip/mk/drv.py
import Derived.Test.YthanmlojikidbaaGreatQUnknnsPDx0
import Derived.Test.YthanmlojikidbaaGreatQUnknnsPDx6
namespace Go.Proofs.YthanmlojikidbaaGreat.PD
open Go.RowKit Go.Proofs.YthanmlojikidbaaGreatW.PrintWords Go.Proofs.YthanmlojikidbaaGreatW.PrintLast Go.Proofs.YthanmlojikidbaaGreatW.PrintMore
attribute [local go_sem] max2_int min2_int max_two min_two max_three min_three max_four min_four
set_option linter.unusedVariables false
set_option linter.unusedSimpArgs false
/-! ### spec_l1Cur_term: function 81 -/
theorem z81_0 {P Q : Prop} (h : Aside0 (Q)) (f : Q → P := by intro h_; repeat (first | (with_reducible first | exact h_ | apply IsS51.alloc | apply IsS51.drewN | apply IsS51.drew | apply IsS51.set_1 | apply IsS51.set_2) | exact h_)) : P := f h.out
theorem z81_1 {w W0 W1 : World} {g : Nat} {row : Option Nat} (h : Aside0 (KeepBut w W0 g row)) (f : KeepBut w W0 g row → KeepBut w W1 g row := by intro h_; repeat (first | (with_reducible first | exact h_ | apply KeepBut.set_ | apply keep_drewN | apply keep_drew | apply keep_alloc) | exact h_)) : KeepBut w W1 g row := f h.out
theorem z81_2 {w W0 W1 : World} {B : Nat} (h : Aside0 (Below B w W0)) (f : Below B w W0 → Below B w W1 := by intro h_; repeat (first | (with_reducible first | exact h_ | apply below_alloc | apply pw_below_drewN | apply below_drew1 | refine below_set ?_ (IsS51.ge (Aside0.out (by assumption)))) | exact h_)) : Below B w W1 := f h.out
theorem z81_3 {P Q : Prop} (h : Aside0 (Q)) (f : Q → P := by intro h_; repeat (first | (with_reducible first | exact h_ | apply IsS51.alloc | apply IsS51.drewN | apply IsS51.drew | apply IsS51.set_1 | apply IsS51.set_2 | refine IsS51.far ?_ (Aside0.out (by assumption)) _) | exact h_)) : P := f h.out
theorem z81_4 {w W0 W1 : World} {B : Nat} (h : Aside0 (Below B w W0)) (f : Below B w W0 → Below B w W1 := by intro h_; repeat (first | (with_reducible first | exact h_ | apply below_alloc | apply pw_below_drewN | apply below_drew1 | refine below_set ?_ (IsS51.ge (Aside0.out (by assumption))) | refine below_set ?_ (Aside0.out (by assumption))) | exact h_)) : Below B w W1 := f h.out
theorem z81_5 {w W0 W1 : World} {g : Nat} {row : Option Nat} (h : Aside0 (KeepBut w W0 g row)) (f : KeepBut w W0 g row → KeepBut w W1 g row := by intro h_; repeat (first | (with_reducible first | exact h_ | apply KeepBut.set_ | apply keep_drewN | apply keep_drew | apply keep_alloc | refine keep_far ?_ (Aside0.out (by assumption)) _) | exact h_)) : KeepBut w W1 g row := f h.out
set_option maxHeartbeats 8000000 in
set_option maxRecDepth 100000 in
theorem spec_l1Cur_term.calls (k : Nat) (g : Nat) (s0_0 : List Int) (s0_1 : Int) (s0_2 : Int) (a1 : Int) (r1 : Int) (r2 : Int) (r3 : Int) (r4 : Int) (r5 : Int) (r6 : Int) (w0 w : World) (hI : IsS51 w0 w g s0_0 s0_1 s0_2) (hB : Below w0.heap.size w0 w) (h : spec_l1Cur_term.f k s0_0 s0_1 s0_2 a1 = some (r1, r2, r3, r4, r5, r6)) :
  Calls Tryz.prog 81 #[.pointer (some ⟨g, 0, none⟩), .int .i64 a1] w fun e w' => e = .returned (.agg #[.int .i64 r1, .int .i64 r2, .int .i64 r3, .int .i64 r4]) ∧ IsS51 w0 w' g s0_0 r5 r6 ∧ Below w0.heap.size w0 w' ∧ KeepBut w w' g none := by
 have hu62 := Tryz.underlying62
 have HI0 := qa hI
 have HK := qa (KeepBut.refl w g none)
 have HL := qa hB.size
 clear hI
 have HW0 := qa hB.size
 have HB := qa hB
 clear hB
 have H : ((spec_l1Cur_pick.f s0_0 s0_1 s0_2 41).bind fun bt204 => ((spec_l1Cur_among.f s0_0 bt204.2.1 bt204.2.2 (([1, (-1), 2, (-3), 4, wrap64 (bt204.1 - 20)] : List Int))).bind fun bt210 => (spec_l1Cur_term.l0 k a1 4 0 s0_0 bt210.2.1 bt210.2.2 bt210.1 0 0 0))) = some (r1, r2, r3, r4, r5, r6) := h
 clear h
 replace H := qo H
 obtain ⟨⟨t204, t205, t206⟩, A3, H⟩ := H
 replace H : ((spec_l1Cur_among.f s0_0 t205 t206 (([1, (-1), 2, (-3), 4, wrap64 (t204 - 20)] : List Int))).bind fun bt210 => (spec_l1Cur_term.l0 k a1 4 0 s0_0 bt210.2.1 bt210.2.2 bt210.1 0 0 0)) = some (r1, r2, r3, r4, r5, r6) := H
 obtain ⟨y207, hy207⟩ : ∃ y_ : List Int, y_ = (([1, (-1), 2, (-3), 4, wrap64 (t204 - 20)] : List Int)) := ⟨_, rfl⟩
 replace H : ((spec_l1Cur_among.f s0_0 t205 t206 y207).bind fun bt210 => (spec_l1Cur_term.l0 k a1 4 0 s0_0 bt210.2.1 bt210.2.2 bt210.1 0 0 0)) = some (r1, r2, r3, r4, r5, r6) := by first | (rw [hy207]; with_reducible exact H) | (have H2_ := (Option.bind_some _ _).symm.trans H; rw [hy207]; with_reducible exact H2_) | (have H2_ := (Option.bind_some _ _).symm.trans H; with_reducible exact H2_) | with_reducible exact H | (rw [hy207]; exact H) | exact H
 have Ny207 := qa hy207
 clear hy207
 replace H := qo H
 obtain ⟨⟨t210, t211, t212⟩, A4, H⟩ := H
 replace H : (spec_l1Cur_term.l0 k a1 4 0 s0_0 t211 t212 t210 0 0 0) = some (r1, r2, r3, r4, r5, r6) := H
 have H' := qa H
 clear H
 go_enter Tryz.func81, Tryz.ntmps81
 go_wp2_with (first | ((with_reducible refine gate_dst (N := 4) rfl ?_); refine zbe (N := 4) (cs := #[.int .i64 0, .int .i64 0, .int .i64 0, .int .i64 0]) (t := 62) ?_; intro gb203 hg w5 hbox hb; have BK203 := qa (hbox); have GW203 := qa ((by rw [hg]; exact (keep_size (w := w) (g := g) (row := none) (z81_1 HK)) : w.heap.size ≤ gb203)); have GE203 := qa ((Nat.le_trans HW0.out (by rw [hg]; exact (keep_size (w := w) (g := g) (row := none) (z81_1 HK)) : w.heap.size ≤ gb203) : w0.heap.size ≤ gb203)); have NB0_203 := qa ((by rw [hg]; exact Nat.ne_of_lt (IsS51.lt (show IsS51 w0 _ g s0_0 s0_1 s0_2 from (z81_0 HI0))) : g ≠ gb203)); have NB203_0 := qa ((by rw [hg]; exact Nat.ne_of_gt (IsS51.lt (show IsS51 w0 _ g s0_0 s0_1 s0_2 from (z81_0 HI0))) : gb203 ≠ g)); replace HI0 := qa (IsS51.below (z81_0 HI0) hb); replace HK := qa (KeepBut.trans (z81_1 HK) (KeepBut.of_below hb g none) (.inl rfl)); replace HB := qa (below_step (z81_2 HB) hb); clear hb hbox hg) | ((with_reducible refine gate_callee (f := 27) rfl ?_); refine qg 11 Tryz.func27 #[.pointer (some ⟨g, 0, none⟩), .int .i64 41] ?_; (with_reducible refine (spec_l1Cur_pick.calls g s0_0 s0_1 s0_2 41 t204 t205 t206 w0 _ ?side1 ?side2 A3.out).mono ?_); (case side1 => exact z81_3 HI0); (case side2 => exact z81_4 HB); rintro e w6 ⟨rfl, hi, hb, hk⟩; refine ⟨_, rfl, ?_⟩; replace BK203 := qa (KeepBut.blk hk (zq1 BK203) NB203_0.out (by simp)); replace HK := qa (KeepBut.trans (z81_5 HK) hk (.inl rfl)); replace HB := qa (hb); replace HI0 := qa (hi); (try clear hb); (try clear hb2); (try clear hk); (try clear hi)) | ((with_reducible refine gate_dst (N := 13) rfl ?_); refine Kd.R_lit (Kd.int .i64) _ 3 ?hg (N := 13) ?hd (xs := ([1, (-1), 2, (-3), 4, wrap64 (t204 - 20)] : List Int)) (inner := [.int .i64 1, .int .i64 (-1), .int .i64 2, .int .i64 (-3), .int .i64 4, .int .i64 (wrap64 (t204 - 20))]) (ok := fun _ => True) (okp := fun _ => True) ?hr ?hp (fun _ hk => hk) trivial (Below.refl _ _) (Nat.le_refl _) (by simp) ?_; (case hd => rfl); (case hg => rfl); (case hr => first | (go_simp; done) | (go_simp; rfl)); (case hp => exact (Reps.one (show Kd.M (Kd.int .i64) _ _ _ 1 [.int .i64 1] from rfl) (Reps.one (show Kd.M (Kd.int .i64) _ _ _ (-1) [.int .i64 (-1)] from rfl) (Reps.one (show Kd.M (Kd.int .i64) _ _ _ 2 [.int .i64 2] from rfl) (Reps.one (show Kd.M (Kd.int .i64) _ _ _ (-3) [.int .i64 (-3)] from rfl) (Reps.one (show Kd.M (Kd.int .i64) _ _ _ 4 [.int .i64 4] from rfl) (Reps.one (show Kd.M (Kd.int .i64) _ _ _ (wrap64 (t204 - 20)) [.int .i64 (wrap64 (t204 - 20))] from rfl) (Reps.none _ _)))))))); intro v208 w7 ho8 hb hg_ hnew_; clear hg_ hnew_; (first | rw [← Ny207.out] at ho8 | (simp only [Int.reduceToNat] at ho8; rw [← Ny207.out] at ho8)); have HO209 := qa (Kd.R_lower ho8 (keep_size (w := w) (g := g) (row := none) (z81_5 HK))); replace HI0 := qa (IsS51.below (z81_3 HI0) hb); replace BK203 := qa (zbb BK203 hb); replace HK := qa (KeepBut.trans (z81_5 HK) (KeepBut.of_below hb g none) (.inl rfl)); replace HB := qa (below_step (z81_4 HB) hb); clear hb ho8; obtain ⟨Ao9, co9, eo9⟩ := Kd.R_slice HO209.out; subst eo9) | ((with_reducible refine gate_callee (f := 45) rfl ?_); refine qg 14 Tryz.func45 #[.pointer (some ⟨g, 0, none⟩), .slice Ao9 y207.length co9] ?_; (with_reducible refine (spec_l1Cur_among.calls g s0_0 t205 t206 _ _ y207 t210 t211 t212 w0 _ ?side1 ?side2 ?side3 ?side4 ?side5 A4.out).mono ?_); (case side1 => exact z81_3 HI0); (case side2 => exact z81_4 HB); (case side3 => repeat (first | exact (Kd.R_reads' HO209.out).2.2 | (with_reducible refine Kd.C_alloc ?_ _) | (with_reducible refine Kd.C_drewN ?_ _) | (with_reducible refine Kd.C_drew ?_))); (case side4 => exact (Kd.R_reads' HO209.out).2.1); (case side5 => exact far_slice (IsS51.own_ne HI0.out HO209.out (by decide))); rintro e w10 ⟨rfl, hi, hb, hk⟩; refine ⟨_, rfl, ?_⟩; replace BK203 := qa (KeepBut.blk hk (zq1 BK203) NB203_0.out (by simp)); replace HO209 := qa (Kd.R_mono (Kd.R_keep (IsS51.apart (show IsS51 w0 _ g s0_0 t205 t206 from (z81_3 HI0)) (zq3 HO209) (by decide)) hk (fun _ h => h.2)) (fun _ h => h.1)); replace HK := qa (KeepBut.trans (z81_5 HK) hk (.inl rfl)); replace HB := qa (hb); replace HI0 := qa (hi); (try clear hb); (try clear hb2); (try clear hk); (try clear hi)) | ((with_reducible refine gate_dst (N := 5) rfl ?_); refine zbe (N := 5) (cs := #[.int .i64 0, .int .i64 0, .int .i64 0, .int .i64 0]) (t := 62) ?_; intro gb213 hg w11 hbox hb; have BK213 := qa (hbox); have GW213 := qa ((by rw [hg]; exact (keep_size (w := w) (g := g) (row := none) (z81_5 HK)) : w.heap.size ≤ gb213)); have GE213 := qa ((Nat.le_trans HW0.out (by rw [hg]; exact (keep_size (w := w) (g := g) (row := none) (z81_5 HK)) : w.heap.size ≤ gb213) : w0.heap.size ≤ gb213)); have NB203_213 := qa (zlt BK203 hg); have NB213_203 := qa (zgt BK203 hg); have NB0_213 := qa ((by rw [hg]; exact Nat.ne_of_lt (IsS51.lt (show IsS51 w0 _ g s0_0 t211 t212 from (z81_3 HI0))) : g ≠ gb213)); have NB213_0 := qa ((by rw [hg]; exact Nat.ne_of_gt (IsS51.lt (show IsS51 w0 _ g s0_0 t211 t212 from (z81_3 HI0))) : gb213 ≠ g)); replace HO209 := qa (Kd.R_below (zq3 HO209) hb); replace HI0 := qa (IsS51.below (z81_3 HI0) hb); replace BK203 := qa (zbb BK203 hb); replace HK := qa (KeepBut.trans (z81_5 HK) (KeepBut.of_below hb g none) (.inl rfl)); replace HB := qa (below_step (z81_4 HB) hb); clear hb hbox hg; have hnb12 := NB213_203.out; have hnc12 := NB203_213.out; have hnb13 := NB213_0.out; have hnc13 := NB0_213.out; obtain ⟨hcz14_0, hcz14_1, hcz14_2, hcz14_3⟩ := qc4 BK213; obtain ⟨hfz14_0, hfz14_1, hfz14_2, hfz14_3⟩ := qz4 BK213))
 go_loopg [6, 7] k (fun kq v6 v7 w' => ∃ (x6_1 : Int) (x7_1 : Int) (x1001_1 : Int) (x1002_1 : Int) (x214000_1 : Int) (x214001_1 : Int) (x214002_1 : Int) (x214003_1 : Int), v6 = .int .i64 x6_1 ∧ v7 = .int .i64 x7_1 ∧ Aside0 (spec_l1Cur_term.l0 kq a1 x6_1 x7_1 s0_0 x1001_1 x1002_1 x214000_1 x214001_1 x214002_1 x214003_1 = some (r1, r2, r3, r4, r5, r6)) ∧ Aside0 (kq ≤ k) ∧ Aside0 (w'.heap[gb203]? = some (.cells #[.int .i64 0, .int .i64 0, .int .i64 0, .int .i64 0] 62 (0, 0))) ∧ Aside0 (w'.heap[gb213]? = some (.cells #[.int .i64 x214000_1, .int .i64 x214001_1, .int .i64 x214002_1, .int .i64 x214003_1] 62 (0, 0))) ∧ Aside0 (IsS51 w0 w' g s0_0 x1001_1 x1002_1) ∧ Aside0 (KeepBut w w' g none) ∧ Aside0 (Below w0.heap.size w0 w'))
 case atStart => exact ⟨(4), (0), (t211), (t212), (t210), (0), (0), (0), (by first | rfl | (simp; done) | (simp [*]; done) | (simp [wrap64]; done)), (by first | rfl | (simp; done) | (simp [*]; done) | (simp [wrap64]; done)), H', ⟨Nat.le_refl _⟩, ⟨zq5 BK203⟩, ⟨qs BK213⟩, ⟨(z81_3 HI0)⟩, ⟨(z81_5 HK)⟩, ⟨(z81_4 HB)⟩⟩
 case round =>
  clear H'
  try clear c1
  try clear c2
  try clear p2
  try clear c4
  try clear p6
  try clear c8
  try clear c12
  try clear c13
  try clear hcz14_0
  try clear hcz14_1
  try clear hcz14_2
  try clear hcz14_3
  try clear hfz14_0
  try clear hfz14_1
  try clear hfz14_2
  try clear hfz14_3
  obtain ⟨x6_1, x7_1, x1001_1, x1002_1, x214000_1, x214001_1, x214002_1, x214003_1, rfl, rfl, HA, HK1, BK203, BK213, HI0, HK, HB⟩ := hrel
  cases gk with
  | zero => exact absurd HA.out (by simp [spec_l1Cur_term.l0])
  | succ k1 =>
   have H := HA.out
   clear HA
   simp only [spec_l1Cur_term.l0] at H
   by_cases c15 : x7_1 < a1
   ·
    rw [if_pos c15] at H
    have c15b0 := decide_eq_true c15
    clear c15
    replace H := qo H
    obtain ⟨⟨t214, t215, t216⟩, A16, H⟩ := H
    replace H : ((spec_l1Cur_among.f s0_0 t215 t216 (([0, 0, 1, 1, 2, t214] : List Int))).bind fun bt220 => (if bt220.1 > x6_1 then ((spec_poWith.f x214000_1 x214001_1 x214002_1 x214003_1 x7_1 x6_1).bind fun bt223 => (spec_l1Cur_term.l0 k1 a1 0 (wrap64 (x7_1 + 1)) s0_0 bt220.2.1 bt220.2.2 bt223.1 bt223.2.1 bt223.2.2.1 bt223.2.2.2)) else ((spec_poWith.f x214000_1 x214001_1 x214002_1 x214003_1 x7_1 bt220.1).bind fun bt227 => (spec_l1Cur_term.l0 k1 a1 (wrap64 (x6_1 - bt220.1)) (wrap64 (x7_1 + 1)) s0_0 bt220.2.1 bt220.2.2 bt227.1 bt227.2.1 bt227.2.2.1 bt227.2.2.2)))) = some (r1, r2, r3, r4, r5, r6) := H
    obtain ⟨y217, hy217⟩ : ∃ y_ : List Int, y_ = (([0, 0, 1, 1, 2, t214] : List Int)) := ⟨_, rfl⟩
    replace H : ((spec_l1Cur_among.f s0_0 t215 t216 y217).bind fun bt220 => (if bt220.1 > x6_1 then ((spec_poWith.f x214000_1 x214001_1 x214002_1 x214003_1 x7_1 x6_1).bind fun bt223 => (spec_l1Cur_term.l0 k1 a1 0 (wrap64 (x7_1 + 1)) s0_0 bt220.2.1 bt220.2.2 bt223.1 bt223.2.1 bt223.2.2.1 bt223.2.2.2)) else ((spec_poWith.f x214000_1 x214001_1 x214002_1 x214003_1 x7_1 bt220.1).bind fun bt227 => (spec_l1Cur_term.l0 k1 a1 (wrap64 (x6_1 - bt220.1)) (wrap64 (x7_1 + 1)) s0_0 bt220.2.1 bt220.2.2 bt227.1 bt227.2.1 bt227.2.2.1 bt227.2.2.2)))) = some (r1, r2, r3, r4, r5, r6) := by first | (rw [hy217]; with_reducible exact H) | (have H2_ := (Option.bind_some _ _).symm.trans H; rw [hy217]; with_reducible exact H2_) | (have H2_ := (Option.bind_some _ _).symm.trans H; with_reducible exact H2_) | with_reducible exact H | (rw [hy217]; exact H) | exact H
    have Ny217 := qa hy217
    clear hy217
    replace H := qo H
    obtain ⟨⟨t220, t221, t222⟩, A17, H⟩ := H
    replace H : (if t220 > x6_1 then ((spec_poWith.f x214000_1 x214001_1 x214002_1 x214003_1 x7_1 x6_1).bind fun bt223 => (spec_l1Cur_term.l0 k1 a1 0 (wrap64 (x7_1 + 1)) s0_0 t221 t222 bt223.1 bt223.2.1 bt223.2.2.1 bt223.2.2.2)) else ((spec_poWith.f x214000_1 x214001_1 x214002_1 x214003_1 x7_1 t220).bind fun bt227 => (spec_l1Cur_term.l0 k1 a1 (wrap64 (x6_1 - t220)) (wrap64 (x7_1 + 1)) s0_0 t221 t222 bt227.1 bt227.2.1 bt227.2.2.1 bt227.2.2.2))) = some (r1, r2, r3, r4, r5, r6) := H
    by_cases c18 : t220 > x6_1
    ·
     rw [if_pos c18] at H
     have c18b0 := decide_eq_true c18
     clear c18
     replace H := qo H
     obtain ⟨⟨t223, t224, t225, t226⟩, A19, H⟩ := H
     replace H : (spec_l1Cur_term.l0 k1 a1 0 (wrap64 (x7_1 + 1)) s0_0 t221 t222 t223 t224 t225 t226) = some (r1, r2, r3, r4, r5, r6) := H
     have H' := qa H
     clear H
     go_wp2_with (first | ((with_reducible refine gate_callee (f := 27) rfl ?_); refine qg 25 Tryz.func27 #[.pointer (some ⟨g, 0, none⟩), .int .i64 (wrap64 (x6_1 + 1))] ?_; (with_reducible refine (spec_l1Cur_pick.calls g s0_0 x1001_1 x1002_1 (wrap64 (x6_1 + 1)) t214 t215 t216 w0 _ ?side1 ?side2 A16.out).mono ?_); (case side1 => exact z81_3 HI0); (case side2 => exact z81_4 HB); rintro e w20 ⟨rfl, hi, hb, hk⟩; refine ⟨_, rfl, ?_⟩; replace BK203 := qa (KeepBut.blk hk (zq1 BK203) NB203_0.out (by simp)); replace BK213 := qa (KeepBut.blk hk (zq1 BK213) NB213_0.out (by simp)); replace HK := qa (KeepBut.trans (z81_5 HK) hk (.inl rfl)); replace HB := qa (hb); replace HI0 := qa (hi); (try clear hb); (try clear hb2); (try clear hk); (try clear hi)) | ((with_reducible refine gate_dst (N := 26) rfl ?_); refine Kd.R_lit (Kd.int .i64) _ 3 ?hg (N := 26) ?hd (xs := ([0, 0, 1, 1, 2, t214] : List Int)) (inner := [.int .i64 0, .int .i64 0, .int .i64 1, .int .i64 1, .int .i64 2, .int .i64 t214]) (ok := fun _ => True) (okp := fun _ => True) ?hr ?hp (fun _ hk => hk) trivial (Below.refl _ _) (Nat.le_refl _) (by simp) ?_; (case hd => rfl); (case hg => rfl); (case hr => first | (go_simp; done) | (go_simp; rfl)); (case hp => exact (Reps.one (show Kd.M (Kd.int .i64) _ _ _ 0 [.int .i64 0] from rfl) (Reps.one (show Kd.M (Kd.int .i64) _ _ _ 0 [.int .i64 0] from rfl) (Reps.one (show Kd.M (Kd.int .i64) _ _ _ 1 [.int .i64 1] from rfl) (Reps.one (show Kd.M (Kd.int .i64) _ _ _ 1 [.int .i64 1] from rfl) (Reps.one (show Kd.M (Kd.int .i64) _ _ _ 2 [.int .i64 2] from rfl) (Reps.one (show Kd.M (Kd.int .i64) _ _ _ t214 [.int .i64 t214] from rfl) (Reps.none _ _)))))))); intro v218 w21 ho22 hb hg_ hnew_; clear hg_ hnew_; (first | rw [← Ny217.out] at ho22 | (simp only [Int.reduceToNat] at ho22; rw [← Ny217.out] at ho22)); have HO219 := qa (Kd.R_lower ho22 (keep_size (w := w) (g := g) (row := none) (z81_5 HK))); replace BK203 := qa (zbb BK203 hb); replace BK213 := qa (zbb BK213 hb); replace HI0 := qa (IsS51.below (z81_3 HI0) hb); replace HK := qa (KeepBut.trans (z81_5 HK) (KeepBut.of_below hb g none) (.inl rfl)); replace HB := qa (below_step (z81_4 HB) hb); clear hb ho22; obtain ⟨Ao23, co23, eo23⟩ := Kd.R_slice HO219.out; subst eo23) | ((with_reducible refine gate_callee (f := 45) rfl ?_); refine qg 27 Tryz.func45 #[.pointer (some ⟨g, 0, none⟩), .slice Ao23 y217.length co23] ?_; (with_reducible refine (spec_l1Cur_among.calls g s0_0 t215 t216 _ _ y217 t220 t221 t222 w0 _ ?side1 ?side2 ?side3 ?side4 ?side5 A17.out).mono ?_); (case side1 => exact z81_3 HI0); (case side2 => exact z81_4 HB); (case side3 => repeat (first | exact (Kd.R_reads' HO219.out).2.2 | (with_reducible refine Kd.C_alloc ?_ _) | (with_reducible refine Kd.C_drewN ?_ _) | (with_reducible refine Kd.C_drew ?_))); (case side4 => exact (Kd.R_reads' HO219.out).2.1); (case side5 => exact far_slice (IsS51.own_ne HI0.out HO219.out (by decide))); rintro e w24 ⟨rfl, hi, hb, hk⟩; refine ⟨_, rfl, ?_⟩; replace BK203 := qa (KeepBut.blk hk (zq1 BK203) NB203_0.out (by simp)); replace BK213 := qa (KeepBut.blk hk (zq1 BK213) NB213_0.out (by simp)); replace HO219 := qa (Kd.R_mono (Kd.R_keep (IsS51.apart (show IsS51 w0 _ g s0_0 t215 t216 from (z81_3 HI0)) (zq3 HO219) (by decide)) hk (fun _ h => h.2)) (fun _ h => h.1)); replace HK := qa (KeepBut.trans (z81_5 HK) hk (.inl rfl)); replace HB := qa (hb); replace HI0 := qa (hi); (try clear hb); (try clear hb2); (try clear hk); (try clear hi); have hnb25 := NB213_203.out; have hnc25 := NB203_213.out; have hnb26 := NB213_0.out; have hnc26 := NB0_213.out; obtain ⟨hcz27_0, hcz27_1, hcz27_2, hcz27_3⟩ := qc4 BK213; obtain ⟨hfz27_0, hfz27_1, hfz27_2, hfz27_3⟩ := qz4 BK213) | ((with_reducible refine gate_callee (f := 51) rfl ?_); refine qg 35 Tryz.func51 #[.agg #[.int .i64 x214000_1, .int .i64 x214001_1, .int .i64 x214002_1, .int .i64 x214003_1], .int .i64 x7_1, .int .i64 x6_1] ?_; (with_reducible refine (spec_poWith.calls x214000_1 x214001_1 x214002_1 x214003_1 x7_1 x6_1 t223 t224 t225 t226 _ A19.out).mono ?_); rintro e w28 ⟨rfl, hb⟩; refine ⟨_, rfl, ?_⟩; replace HO219 := qa (Kd.R_below (zq3 HO219) hb); replace BK203 := qa (zbb BK203 hb); replace BK213 := qa (zbb BK213 hb); replace HI0 := qa (IsS51.below (z81_3 HI0) hb); replace HK := qa (KeepBut.trans (z81_5 HK) (KeepBut.of_below hb g none) (.inl rfl)); replace HB := qa (below_step (z81_4 HB) hb); (try clear hb); (try clear hb2); (try clear hk); (try clear hi); obtain ⟨hcz29_0, hcz29_1, hcz29_2, hcz29_3⟩ := qc4 BK213; obtain ⟨hfz29_0, hfz29_1, hfz29_2, hfz29_3⟩ := qz4 BK213))
     go_roundg k1
     case measure => have := HK1.out; omega
     case rel => exact ⟨0, (wrap64 (x7_1 + 1)), (t221), (t222), (t223), (t224), (t225), (t226), (by first | rfl | (simp; done) | (simp [*]; done) | (simp [wrap64]; done)), (by first | rfl | (simp; done) | (simp [*]; done) | (simp [wrap64]; done)), H', ⟨by have := HK1.out; omega⟩, ⟨zq5 BK203⟩, ⟨qs BK213⟩, ⟨(z81_3 HI0)⟩, ⟨(z81_5 HK)⟩, ⟨(z81_4 HB)⟩⟩
    ·
     rw [if_neg c18] at H
     have c18b0 := decide_eq_false c18
     clear c18
     replace H := qo H
     obtain ⟨⟨t227, t228, t229, t230⟩, A30, H⟩ := H
     replace H : (spec_l1Cur_term.l0 k1 a1 (wrap64 (x6_1 - t220)) (wrap64 (x7_1 + 1)) s0_0 t221 t222 t227 t228 t229 t230) = some (r1, r2, r3, r4, r5, r6) := H
     have H' := qa H
     clear H
     go_wp2_with (first | ((with_reducible refine gate_callee (f := 27) rfl ?_); refine qg 25 Tryz.func27 #[.pointer (some ⟨g, 0, none⟩), .int .i64 (wrap64 (x6_1 + 1))] ?_; (with_reducible refine (spec_l1Cur_pick.calls g s0_0 x1001_1 x1002_1 (wrap64 (x6_1 + 1)) t214 t215 t216 w0 _ ?side1 ?side2 A16.out).mono ?_); (case side1 => exact z81_3 HI0); (case side2 => exact z81_4 HB); rintro e w31 ⟨rfl, hi, hb, hk⟩; refine ⟨_, rfl, ?_⟩; replace BK203 := qa (KeepBut.blk hk (zq1 BK203) NB203_0.out (by simp)); replace BK213 := qa (KeepBut.blk hk (zq1 BK213) NB213_0.out (by simp)); replace HK := qa (KeepBut.trans (z81_5 HK) hk (.inl rfl)); replace HB := qa (hb); replace HI0 := qa (hi); (try clear hb); (try clear hb2); (try clear hk); (try clear hi)) | ((with_reducible refine gate_dst (N := 26) rfl ?_); refine Kd.R_lit (Kd.int .i64) _ 3 ?hg (N := 26) ?hd (xs := ([0, 0, 1, 1, 2, t214] : List Int)) (inner := [.int .i64 0, .int .i64 0, .int .i64 1, .int .i64 1, .int .i64 2, .int .i64 t214]) (ok := fun _ => True) (okp := fun _ => True) ?hr ?hp (fun _ hk => hk) trivial (Below.refl _ _) (Nat.le_refl _) (by simp) ?_; (case hd => rfl); (case hg => rfl); (case hr => first | (go_simp; done) | (go_simp; rfl)); (case hp => exact (Reps.one (show Kd.M (Kd.int .i64) _ _ _ 0 [.int .i64 0] from rfl) (Reps.one (show Kd.M (Kd.int .i64) _ _ _ 0 [.int .i64 0] from rfl) (Reps.one (show Kd.M (Kd.int .i64) _ _ _ 1 [.int .i64 1] from rfl) (Reps.one (show Kd.M (Kd.int .i64) _ _ _ 1 [.int .i64 1] from rfl) (Reps.one (show Kd.M (Kd.int .i64) _ _ _ 2 [.int .i64 2] from rfl) (Reps.one (show Kd.M (Kd.int .i64) _ _ _ t214 [.int .i64 t214] from rfl) (Reps.none _ _)))))))); intro v218 w32 ho33 hb hg_ hnew_; clear hg_ hnew_; (first | rw [← Ny217.out] at ho33 | (simp only [Int.reduceToNat] at ho33; rw [← Ny217.out] at ho33)); have HO219 := qa (Kd.R_lower ho33 (keep_size (w := w) (g := g) (row := none) (z81_5 HK))); replace BK203 := qa (zbb BK203 hb); replace BK213 := qa (zbb BK213 hb); replace HI0 := qa (IsS51.below (z81_3 HI0) hb); replace HK := qa (KeepBut.trans (z81_5 HK) (KeepBut.of_below hb g none) (.inl rfl)); replace HB := qa (below_step (z81_4 HB) hb); clear hb ho33; obtain ⟨Ao34, co34, eo34⟩ := Kd.R_slice HO219.out; subst eo34) | ((with_reducible refine gate_callee (f := 45) rfl ?_); refine qg 27 Tryz.func45 #[.pointer (some ⟨g, 0, none⟩), .slice Ao34 y217.length co34] ?_; (with_reducible refine (spec_l1Cur_among.calls g s0_0 t215 t216 _ _ y217 t220 t221 t222 w0 _ ?side1 ?side2 ?side3 ?side4 ?side5 A17.out).mono ?_); (case side1 => exact z81_3 HI0); (case side2 => exact z81_4 HB); (case side3 => repeat (first | exact (Kd.R_reads' HO219.out).2.2 | (with_reducible refine Kd.C_alloc ?_ _) | (with_reducible refine Kd.C_drewN ?_ _) | (with_reducible refine Kd.C_drew ?_))); (case side4 => exact (Kd.R_reads' HO219.out).2.1); (case side5 => exact far_slice (IsS51.own_ne HI0.out HO219.out (by decide))); rintro e w35 ⟨rfl, hi, hb, hk⟩; refine ⟨_, rfl, ?_⟩; replace BK203 := qa (KeepBut.blk hk (zq1 BK203) NB203_0.out (by simp)); replace BK213 := qa (KeepBut.blk hk (zq1 BK213) NB213_0.out (by simp)); replace HO219 := qa (Kd.R_mono (Kd.R_keep (IsS51.apart (show IsS51 w0 _ g s0_0 t215 t216 from (z81_3 HI0)) (zq3 HO219) (by decide)) hk (fun _ h => h.2)) (fun _ h => h.1)); replace HK := qa (KeepBut.trans (z81_5 HK) hk (.inl rfl)); replace HB := qa (hb); replace HI0 := qa (hi); (try clear hb); (try clear hb2); (try clear hk); (try clear hi); have hnb36 := NB213_203.out; have hnc36 := NB203_213.out; have hnb37 := NB213_0.out; have hnc37 := NB0_213.out; obtain ⟨hcz38_0, hcz38_1, hcz38_2, hcz38_3⟩ := qc4 BK213; obtain ⟨hfz38_0, hfz38_1, hfz38_2, hfz38_3⟩ := qz4 BK213) | ((with_reducible refine gate_callee (f := 51) rfl ?_); refine qg 35 Tryz.func51 #[.agg #[.int .i64 x214000_1, .int .i64 x214001_1, .int .i64 x214002_1, .int .i64 x214003_1], .int .i64 x7_1, .int .i64 t220] ?_; (with_reducible refine (spec_poWith.calls x214000_1 x214001_1 x214002_1 x214003_1 x7_1 t220 t227 t228 t229 t230 _ A30.out).mono ?_); rintro e w39 ⟨rfl, hb⟩; refine ⟨_, rfl, ?_⟩; replace HO219 := qa (Kd.R_below (zq3 HO219) hb); replace BK203 := qa (zbb BK203 hb); replace BK213 := qa (zbb BK213 hb); replace HI0 := qa (IsS51.below (z81_3 HI0) hb); replace HK := qa (KeepBut.trans (z81_5 HK) (KeepBut.of_below hb g none) (.inl rfl)); replace HB := qa (below_step (z81_4 HB) hb); (try clear hb); (try clear hb2); (try clear hk); (try clear hi); obtain ⟨hcz40_0, hcz40_1, hcz40_2, hcz40_3⟩ := qc4 BK213; obtain ⟨hfz40_0, hfz40_1, hfz40_2, hfz40_3⟩ := qz4 BK213))
     go_roundg k1
     case measure => have := HK1.out; omega
     case rel => exact ⟨(wrap64 (x6_1 - t220)), (wrap64 (x7_1 + 1)), (t221), (t222), (t227), (t228), (t229), (t230), (by first | rfl | (simp; done) | (simp [*]; done) | (simp [wrap64]; done)), (by first | rfl | (simp; done) | (simp [*]; done) | (simp [wrap64]; done)), H', ⟨by have := HK1.out; omega⟩, ⟨zq5 BK203⟩, ⟨qs BK213⟩, ⟨(z81_3 HI0)⟩, ⟨(z81_5 HK)⟩, ⟨(z81_4 HB)⟩⟩
   ·
    rw [if_neg c15] at H
    have c15b0 := decide_eq_false c15
    clear c15
    replace H := qo H
    obtain ⟨⟨t231, t232, t233⟩, A41, H⟩ := H
    replace H : (if t231 = true then ((spec_l1Cur_among.f s0_0 t232 t233 (([1000, (-1000)] : List Int))).bind fun bt237 => (some (bt237.1, x214001_1, x214002_1, x214003_1, bt237.2.1, bt237.2.2))) else (some (x214000_1, x214001_1, x214002_1, x214003_1, t232, t233))) = some (r1, r2, r3, r4, r5, r6) := H
    by_cases c42 : t231 = true
    ·
     subst c42
     have H1 : ((spec_l1Cur_among.f s0_0 t232 t233 (([1000, (-1000)] : List Int))).bind fun bt237 => (some (bt237.1, x214001_1, x214002_1, x214003_1, bt237.2.1, bt237.2.2))) = some (r1, r2, r3, r4, r5, r6) := by rw [if_pos rfl] at H; exact H
     clear H
     have H := H1
     clear H1
     obtain ⟨y234, hy234⟩ : ∃ y_ : List Int, y_ = (([1000, (-1000)] : List Int)) := ⟨_, rfl⟩
     replace H : ((spec_l1Cur_among.f s0_0 t232 t233 y234).bind fun bt237 => (some (bt237.1, x214001_1, x214002_1, x214003_1, bt237.2.1, bt237.2.2))) = some (r1, r2, r3, r4, r5, r6) := by first | (rw [hy234]; with_reducible exact H) | (have H2_ := (Option.bind_some _ _).symm.trans H; rw [hy234]; with_reducible exact H2_) | (have H2_ := (Option.bind_some _ _).symm.trans H; with_reducible exact H2_) | with_reducible exact H | (rw [hy234]; exact H) | exact H
     have Ny234 := qa hy234
     clear hy234
     replace H := qo H
     obtain ⟨⟨t237, t238, t239⟩, A43, H⟩ := H
     replace H : (some (t237, x214001_1, x214002_1, x214003_1, t238, t239)) = some (r1, r2, r3, r4, r5, r6) := H
     simp only [Option.some.injEq, Prod.mk.injEq] at H
     obtain ⟨rfl, rfl, rfl, rfl, rfl, rfl⟩ := H
     go_wp2_with (first | ((with_reducible refine gate_callee (f := 28) rfl ?_); refine qg 40 Tryz.func28 #[.pointer (some ⟨g, 0, none⟩), .int .i64 24] ?_; (with_reducible refine (spec_l1Cur_one.calls g s0_0 x1001_1 x1002_1 24 true t232 t233 w0 _ ?side1 ?side2 A41.out).mono ?_); (case side1 => exact z81_3 HI0); (case side2 => exact z81_4 HB); rintro e w44 ⟨rfl, hi, hb, hk⟩; refine ⟨_, rfl, ?_⟩; replace BK203 := qa (KeepBut.blk hk (zq1 BK203) NB203_0.out (by simp)); replace BK213 := qa (KeepBut.blk hk (zq1 BK213) NB213_0.out (by simp)); replace HK := qa (KeepBut.trans (z81_5 HK) hk (.inl rfl)); replace HB := qa (hb); replace HI0 := qa (hi); (try clear hb); (try clear hb2); (try clear hk); (try clear hi)) | ((with_reducible refine gate_dst (N := 42) rfl ?_); refine Kd.R_lit (Kd.int .i64) _ 3 ?hg (N := 42) ?hd (xs := ([1000, (-1000)] : List Int)) (inner := [.int .i64 1000, .int .i64 (-1000)]) (ok := fun _ => True) (okp := fun _ => True) ?hr ?hp (fun _ hk => hk) trivial (Below.refl _ _) (Nat.le_refl _) (by simp) ?_; (case hd => rfl); (case hg => rfl); (case hr => first | (go_simp; done) | (go_simp; rfl)); (case hp => exact (Reps.one (show Kd.M (Kd.int .i64) _ _ _ 1000 [.int .i64 1000] from rfl) (Reps.one (show Kd.M (Kd.int .i64) _ _ _ (-1000) [.int .i64 (-1000)] from rfl) (Reps.none _ _)))); intro v235 w45 ho46 hb hg_ hnew_; clear hg_ hnew_; (first | rw [← Ny234.out] at ho46 | (simp only [Int.reduceToNat] at ho46; rw [← Ny234.out] at ho46)); have HO236 := qa (Kd.R_lower ho46 (keep_size (w := w) (g := g) (row := none) (z81_5 HK))); replace BK203 := qa (zbb BK203 hb); replace BK213 := qa (zbb BK213 hb); replace HI0 := qa (IsS51.below (z81_3 HI0) hb); replace HK := qa (KeepBut.trans (z81_5 HK) (KeepBut.of_below hb g none) (.inl rfl)); replace HB := qa (below_step (z81_4 HB) hb); clear hb ho46; obtain ⟨Ao47, co47, eo47⟩ := Kd.R_slice HO236.out; subst eo47) | ((with_reducible refine gate_callee (f := 45) rfl ?_); refine qg 43 Tryz.func45 #[.pointer (some ⟨g, 0, none⟩), .slice Ao47 y234.length co47] ?_; (with_reducible refine (spec_l1Cur_among.calls g s0_0 t232 t233 _ _ y234 t237 t238 t239 w0 _ ?side1 ?side2 ?side3 ?side4 ?side5 A43.out).mono ?_); (case side1 => exact z81_3 HI0); (case side2 => exact z81_4 HB); (case side3 => repeat (first | exact (Kd.R_reads' HO236.out).2.2 | (with_reducible refine Kd.C_alloc ?_ _) | (with_reducible refine Kd.C_drewN ?_ _) | (with_reducible refine Kd.C_drew ?_))); (case side4 => exact (Kd.R_reads' HO236.out).2.1); (case side5 => exact far_slice (IsS51.own_ne HI0.out HO236.out (by decide))); rintro e w48 ⟨rfl, hi, hb, hk⟩; refine ⟨_, rfl, ?_⟩; replace BK203 := qa (KeepBut.blk hk (zq1 BK203) NB203_0.out (by simp)); replace BK213 := qa (KeepBut.blk hk (zq1 BK213) NB213_0.out (by simp)); replace HO236 := qa (Kd.R_mono (Kd.R_keep (IsS51.apart (show IsS51 w0 _ g s0_0 t232 t233 from (z81_3 HI0)) (zq3 HO236) (by decide)) hk (fun _ h => h.2)) (fun _ h => h.1)); replace HK := qa (KeepBut.trans (z81_5 HK) hk (.inl rfl)); replace HB := qa (hb); replace HI0 := qa (hi); (try clear hb); (try clear hb2); (try clear hk); (try clear hi); have hnb49 := NB213_203.out; have hnc49 := NB203_213.out; have hnb50 := NB213_0.out; have hnc50 := NB0_213.out; obtain ⟨hcz51_0, hcz51_1, hcz51_2, hcz51_3⟩ := qc4 BK213; obtain ⟨hfz51_0, hfz51_1, hfz51_2, hfz51_3⟩ := qz4 BK213; have hnb52 := NB203_0.out; have hnc52 := NB0_203.out; obtain ⟨hcz53_0, hcz53_1, hcz53_2, hcz53_3⟩ := qc4 BK203; obtain ⟨hfz53_0, hfz53_1, hfz53_2, hfz53_3⟩ := qz4 BK203))
     refine bodyPost_ret (results_cell_row rfl _ _ gb203 62 #[.int .i64 t237, .int .i64 x214001_1, .int .i64 x214002_1, .int .i64 x214003_1] (0, 0) _ rfl (qs BK203) Tryz.underlying62 rfl (by kernel_rfl)) rfl ?_
     exact ⟨by first | rfl | (simp [errW_none, errW_some] <;> rfl) | (simp [*, errW_none, errW_some] <;> rfl), (z81_3 HI0), (z81_4 HB), (z81_5 HK)⟩
    ·
     replace c42 := Bool.eq_false_iff.mpr c42
     subst c42
     have H1 : (some (x214000_1, x214001_1, x214002_1, x214003_1, t232, t233)) = some (r1, r2, r3, r4, r5, r6) := by rw [if_neg (show ¬ (false = true) by decide)] at H; exact H
     clear H
     have H := H1
     clear H1
     simp only [Option.some.injEq, Prod.mk.injEq] at H
     obtain ⟨rfl, rfl, rfl, rfl, rfl, rfl⟩ := H
     go_wp2_with (first | ((with_reducible refine gate_callee (f := 28) rfl ?_); refine qg 40 Tryz.func28 #[.pointer (some ⟨g, 0, none⟩), .int .i64 24] ?_; (with_reducible refine (spec_l1Cur_one.calls g s0_0 x1001_1 x1002_1 24 false t232 t233 w0 _ ?side1 ?side2 A41.out).mono ?_); (case side1 => exact z81_3 HI0); (case side2 => exact z81_4 HB); rintro e w54 ⟨rfl, hi, hb, hk⟩; refine ⟨_, rfl, ?_⟩; replace BK203 := qa (KeepBut.blk hk (zq1 BK203) NB203_0.out (by simp)); replace BK213 := qa (KeepBut.blk hk (zq1 BK213) NB213_0.out (by simp)); replace HK := qa (KeepBut.trans (z81_5 HK) hk (.inl rfl)); replace HB := qa (hb); replace HI0 := qa (hi); (try clear hb); (try clear hb2); (try clear hk); (try clear hi); have hnb55 := NB213_203.out; have hnc55 := NB203_213.out; have hnb56 := NB213_0.out; have hnc56 := NB0_213.out; obtain ⟨hcz57_0, hcz57_1, hcz57_2, hcz57_3⟩ := qc4 BK213; obtain ⟨hfz57_0, hfz57_1, hfz57_2, hfz57_3⟩ := qz4 BK213; have hnb58 := NB203_0.out; have hnc58 := NB0_203.out; obtain ⟨hcz59_0, hcz59_1, hcz59_2, hcz59_3⟩ := qc4 BK203; obtain ⟨hfz59_0, hfz59_1, hfz59_2, hfz59_3⟩ := qz4 BK203))
     refine bodyPost_ret (results_cell_row rfl _ _ gb203 62 #[.int .i64 x214000_1, .int .i64 x214001_1, .int .i64 x214002_1, .int .i64 x214003_1] (0, 0) _ rfl (qs BK203) Tryz.underlying62 rfl (by kernel_rfl)) rfl ?_
     exact ⟨by first | rfl | (simp [errW_none, errW_some] <;> rfl) | (simp [*, errW_none, errW_some] <;> rfl), (z81_3 HI0), (z81_4 HB), (z81_5 HK)⟩
/-! ### spec_l1Cur_poly: function 61 -/
theorem z61_0 {P Q : Prop} (h : Aside0 (Q)) (f : Q → P := by intro h_; repeat (first | (with_reducible first | exact h_ | apply IsS51.alloc | apply IsS51.drewN | apply IsS51.drew | apply IsS51.set_1 | apply IsS51.set_2) | exact h_)) : P := f h.out
theorem z61_1 {w W0 W1 : World} {B : Nat} (h : Aside0 (Below B w W0)) (f : Below B w W0 → Below B w W1 := by intro h_; repeat (first | (with_reducible first | exact h_ | apply below_alloc | apply pw_below_drewN | apply below_drew1 | refine below_set ?_ (IsS51.ge (Aside0.out (by assumption)))) | exact h_)) : Below B w W1 := f h.out
theorem z61_2 {w W0 W1 : World} {g : Nat} {row : Option Nat} (h : Aside0 (KeepBut w W0 g row)) (f : KeepBut w W0 g row → KeepBut w W1 g row := by intro h_; repeat (first | (with_reducible first | exact h_ | apply KeepBut.set_ | apply keep_drewN | apply keep_drew | apply keep_alloc) | exact h_)) : KeepBut w W1 g row := f h.out
set_option maxHeartbeats 8000000 in
set_option maxRecDepth 100000 in
theorem spec_l1Cur_poly.calls (k : Nat) (g : Nat) (s0_0 : List Int) (s0_1 : Int) (s0_2 : Int) (a1 : Int) (r1 : List (S62)) (r2 : Int) (r3 : Int) (w0 w : World) (hI : IsS51 w0 w g s0_0 s0_1 s0_2) (hB : Below w0.heap.size w0 w) (h : spec_l1Cur_poly.f k s0_0 s0_1 s0_2 a1 = some (r1, r2, r3)) :
  Calls Tryz.prog 61 #[.pointer (some ⟨g, 0, none⟩), .int .i64 a1] w fun e w' => ∃ v0_ : Value, e = .returned (v0_) ∧ Kd.R k62 62 w' w.heap.size (fun _ => True) v0_ r1 ∧ IsS51 w0 w' g s0_0 r2 r3 ∧ Below w0.heap.size w0 w' ∧ KeepBut w w' g none := by
 have HI0 := qa hI
 have HK := qa (KeepBut.refl w g none)
 have HL := qa hB.size
 clear hI
 have HW0 := qa hB.size
 have HB := qa hB
 clear hB
 have H : ((spec_l1Cur_pick.f s0_0 s0_1 s0_2 4).bind fun bt240 => ((spec_l1Cur_one.f s0_0 bt240.2.1 bt240.2.2 20).bind fun bt243 => (if bt243.1 = true then (spec_l1Cur_poly.j0 k a1 ([] : List (S62)) 24 s0_0 bt243.2.1 bt243.2.2) else (spec_l1Cur_poly.j0 k a1 ([] : List (S62)) (wrap64 (1 + bt240.1)) s0_0 bt243.2.1 bt243.2.2)))) = some (r1, r2, r3) := h
 clear h
 replace H := qo H
 obtain ⟨⟨t240, t241, t242⟩, A3, H⟩ := H
 replace H : ((spec_l1Cur_one.f s0_0 t241 t242 20).bind fun bt243 => (if bt243.1 = true then (spec_l1Cur_poly.j0 k a1 ([] : List (S62)) 24 s0_0 bt243.2.1 bt243.2.2) else (spec_l1Cur_poly.j0 k a1 ([] : List (S62)) (wrap64 (1 + t240)) s0_0 bt243.2.1 bt243.2.2))) = some (r1, r2, r3) := H
 replace H := qo H
 obtain ⟨⟨t243, t244, t245⟩, A4, H⟩ := H
 replace H : (if t243 = true then (spec_l1Cur_poly.j0 k a1 ([] : List (S62)) 24 s0_0 t244 t245) else (spec_l1Cur_poly.j0 k a1 ([] : List (S62)) (wrap64 (1 + t240)) s0_0 t244 t245)) = some (r1, r2, r3) := H
 have HC5 := qa H
 clear H
 go_enter Tryz.func61, Tryz.ntmps61
 go_upto_if 14 with (first | ((with_reducible refine gate_callee (f := 27) rfl ?_); refine qg 11 Tryz.func27 #[.pointer (some ⟨g, 0, none⟩), .int .i64 4] ?_; (with_reducible refine (spec_l1Cur_pick.calls g s0_0 s0_1 s0_2 4 t240 t241 t242 w0 _ ?side1 ?side2 A3.out).mono ?_); (case side1 => exact z61_0 HI0); (case side2 => exact z61_1 HB); rintro e w6 ⟨rfl, hi, hb, hk⟩; refine ⟨_, rfl, ?_⟩; replace HK := qa (KeepBut.trans (z61_2 HK) hk (.inl rfl)); replace HB := qa (hb); replace HI0 := qa (hi); (try clear hb); (try clear hb2); (try clear hk); (try clear hi)) | ((with_reducible refine gate_callee (f := 28) rfl ?_); refine qg 14 Tryz.func28 #[.pointer (some ⟨g, 0, none⟩), .int .i64 20] ?_; (with_reducible refine (spec_l1Cur_one.calls g s0_0 t241 t242 20 t243 t244 t245 w0 _ ?side1 ?side2 A4.out).mono ?_); (case side1 => exact z61_0 HI0); (case side2 => exact z61_1 HB); rintro e w7 ⟨rfl, hi, hb, hk⟩; refine ⟨_, rfl, ?_⟩; replace HK := qa (KeepBut.trans (z61_2 HK) hk (.inl rfl)); replace HB := qa (hb); replace HI0 := qa (hi); (try clear hb); (try clear hb2); (try clear hk); (try clear hi)))
 (try simp only [Act.put, List.setIfInBounds_toArray, List.set_cons_zero, List.set_cons_succ])
 go_cut [6] (fun v6 wc => ∃ (kq : Nat) (x6_4 : Int), v6 = .int .i64 x6_4 ∧ Aside0 (spec_l1Cur_poly.j0 kq a1 ([] : List (S62)) x6_4 s0_0 t244 t245 = some (r1, r2, r3)) ∧ Aside0 (kq ≤ k) ∧ Aside0 (Kd.R k62 62 wc w.heap.size (fun _ => True) (.slice none 0 0) ([] : List (S62))) ∧ Aside0 (IsS51 w0 wc g s0_0 t244 t245) ∧ Aside0 (KeepBut w wc g none) ∧ Aside0 (Below w0.heap.size w0 wc))
 case first =>
  have H := HC5.out
  clear HC5
  by_cases c8 : t243 = true
  ·
   subst c8
   have H1 : (spec_l1Cur_poly.j0 k a1 ([] : List (S62)) 24 s0_0 t244 t245) = some (r1, r2, r3) := by rw [if_pos rfl] at H; exact H
   clear H
   have H := H1
   clear H1
   have H' := qa H
   clear H
   go_wp2
   go_meet
   case rel => exact ⟨_, (24), qf, H', ⟨by first | omega | exact Nat.le_refl _⟩, ⟨by first | exact Kd.R_nil _ _ _ _ _ | exact Kd.N_nil _ _ _ _ _ | exact Kd.V_nil _ _ _ _ _ | exact Kd.Q_nil _ _ _ _ _ | exact Kd.S_nil _ _ _ _ _⟩, ⟨(z61_0 HI0)⟩, ⟨(z61_2 HK)⟩, ⟨(z61_1 HB)⟩⟩
  ·
   replace c8 := Bool.eq_false_iff.mpr c8
   subst c8
   have H1 : (spec_l1Cur_poly.j0 k a1 ([] : List (S62)) (wrap64 (1 + t240)) s0_0 t244 t245) = some (r1, r2, r3) := by rw [if_neg (show ¬ (false = true) by decide)] at H; exact H
   clear H
   have H := H1
   clear H1
   have H' := qa H
   clear H
   go_wp2
   go_meet
   case rel => exact ⟨_, (wrap64 (1 + t240)), qf, H', ⟨by first | omega | exact Nat.le_refl _⟩, ⟨by first | exact Kd.R_nil _ _ _ _ _ | exact Kd.N_nil _ _ _ _ _ | exact Kd.V_nil _ _ _ _ _ | exact Kd.Q_nil _ _ _ _ _ | exact Kd.S_nil _ _ _ _ _⟩, ⟨(z61_0 HI0)⟩, ⟨(z61_2 HK)⟩, ⟨(z61_1 HB)⟩⟩
 case rest =>
  clear HC5
  try clear c2
  try clear p2
  try clear c6
  try clear p6
  try clear c8
  obtain ⟨kq, x6_4, rfl, HA, HJ4, HO_5, HI0, HK, HB⟩ := hcut
  cases kq with
  | zero => exact absurd HA.out (by simp [spec_l1Cur_poly.j0])
  | succ kj4 =>
   have H := HA.out
   clear HA
   simp only [spec_l1Cur_poly.j0] at H
   have H' := qa H
   clear H
   go_wp2
   go_loopg [5, 7] kj4 (fun kq v5 v7 w' => ∃ (x5_2 : List (S62)) (x7_2 : Int) (x1001_2 : Int) (x1002_2 : Int), v7 = .int .i64 x7_2 ∧ Aside0 (spec_l1Cur_poly.l0 kq a1 x5_2 x6_4 x7_2 s0_0 x1001_2 x1002_2 = some (r1, r2, r3)) ∧ Aside0 (kq ≤ kj4) ∧ Aside0 (Kd.R k62 62 w' w.heap.size (fun _ => True) v5 x5_2) ∧ Aside0 (IsS51 w0 w' g s0_0 x1001_2 x1002_2) ∧ Aside0 (KeepBut w w' g none) ∧ Aside0 (Below w0.heap.size w0 w'))
   case atStart => exact ⟨(([] : List (S62))), (0), (t244), (t245), qf, H', ⟨Nat.le_refl _⟩, ⟨by (with_reducible repeat (first | apply Kd.R_alloc | apply Kd.R_drewN | apply Kd.R_drew)); exact HO_5.out⟩, ⟨(z61_0 HI0)⟩, ⟨(z61_2 HK)⟩, ⟨(z61_1 HB)⟩⟩
   case round =>
    clear H'
    try clear c2
    try clear p2
    try clear c6
    try clear p6
    try clear c8
    try clear p2
    try clear p6
    obtain ⟨x5_2, x7_2, x1001_2, x1002_2, rfl, HA, HK2, HO_5, HI0, HK, HB⟩ := hrel
    cases gk with
    | zero => exact absurd HA.out (by simp [spec_l1Cur_poly.l0])
    | succ k2 =>
     have H := HA.out
     clear HA
     simp only [spec_l1Cur_poly.l0] at H
     by_cases c9 : x7_2 < x6_4
     ·
      rw [if_pos c9] at H
      have c9b0 := decide_eq_true c9
      clear c9
      replace H := qo H
      obtain ⟨⟨t249, t250, t251, t252, t253, t254⟩, A10, H⟩ := H
      replace H : ((spec_poAdd.f k2 x5_2 (([(⟨t249, t250, t251, t252⟩ : S62)] : List (S62)))).bind fun bt258 => (if bt258.2 = true then (spec_l1Cur_poly.l0 k2 a1 bt258.1 x6_4 (wrap64 (x7_2 + 1)) s0_0 t253 t254) else (spec_l1Cur_poly.l0 k2 a1 x5_2 x6_4 (wrap64 (x7_2 + 1)) s0_0 t253 t254))) = some (r1, r2, r3) := H
      obtain ⟨y255, hy255⟩ : ∃ y_ : List (S62), y_ = (([(⟨t249, t250, t251, t252⟩ : S62)] : List (S62))) := ⟨_, rfl⟩
      replace H : ((spec_poAdd.f k2 x5_2 y255).bind fun bt258 => (if bt258.2 = true then (spec_l1Cur_poly.l0 k2 a1 bt258.1 x6_4 (wrap64 (x7_2 + 1)) s0_0 t253 t254) else (spec_l1Cur_poly.l0 k2 a1 x5_2 x6_4 (wrap64 (x7_2 + 1)) s0_0 t253 t254))) = some (r1, r2, r3) := by first | (rw [hy255]; with_reducible exact H) | (have H2_ := (Option.bind_some _ _).symm.trans H; rw [hy255]; with_reducible exact H2_) | (have H2_ := (Option.bind_some _ _).symm.trans H; with_reducible exact H2_) | with_reducible exact H | (rw [hy255]; exact H) | exact H
      have Ny255 := qa hy255
      clear hy255
      replace H := qo H
      obtain ⟨⟨t258, t259⟩, A11, H⟩ := H
      replace H : (if t259 = true then (spec_l1Cur_poly.l0 k2 a1 t258 x6_4 (wrap64 (x7_2 + 1)) s0_0 t253 t254) else (spec_l1Cur_poly.l0 k2 a1 x5_2 x6_4 (wrap64 (x7_2 + 1)) s0_0 t253 t254)) = some (r1, r2, r3) := H
      by_cases c12 : t259 = true
      ·
       subst c12
       have H1 : (spec_l1Cur_poly.l0 k2 a1 t258 x6_4 (wrap64 (x7_2 + 1)) s0_0 t253 t254) = some (r1, r2, r3) := by rw [if_pos rfl] at H; exact H
       clear H
       have H := H1
       clear H1
       have H' := qa H
       clear H
       go_wp2_with (first | ((with_reducible refine gate_callee (f := 81) rfl ?_); refine qg 24 Tryz.func81 #[.pointer (some ⟨g, 0, none⟩), .int .i64 a1] ?_; (with_reducible refine (spec_l1Cur_term.calls k2 g s0_0 x1001_2 x1002_2 a1 t249 t250 t251 t252 t253 t254 w0 _ ?side1 ?side2 A10.out).mono ?_); (case side1 => exact z61_0 HI0); (case side2 => exact z61_1 HB); rintro e w13 ⟨rfl, hi, hb, hk⟩; refine ⟨_, rfl, ?_⟩; replace HO_5 := qa (Kd.R_mono (Kd.R_keep (IsS51.apart (show IsS51 w0 _ g s0_0 x1001_2 x1002_2 from (z61_0 HI0)) (zq3 HO_5) (by decide)) hk (fun _ h => h.2)) (fun _ h => h.1)); replace HK := qa (KeepBut.trans (z61_2 HK) hk (.inl rfl)); replace HB := qa (hb); replace HI0 := qa (hi); (try clear hb); (try clear hb2); (try clear hk); (try clear hi)) | ((with_reducible refine gate_dst (N := 25) rfl ?_); refine Kd.R_lit k62 _ 62 ?hg (N := 25) ?hd (xs := ([(⟨t249, t250, t251, t252⟩ : S62)] : List (S62))) (inner := [.int .i64 t249, .int .i64 t250, .int .i64 t251, .int .i64 t252]) (ok := fun _ => True) (okp := fun _ => True) ?hr ?hp (fun _ hk => hk) trivial (Below.refl _ _) (Nat.le_refl _) (by simp) ?_; (case hd => rfl); (case hg => rfl); (case hr => first | (go_simp; done) | (go_simp; rfl)); (case hp => exact (Reps.c4 (show Kd.M k62 _ _ _ (⟨t249, t250, t251, t252⟩ : S62) [.int .i64 t249, .int .i64 t250, .int .i64 t251, .int .i64 t252] from (k62_mkM _ _ _ (⟨t249, t250, t251, t252⟩ : S62) )) (Reps.none _ _))); intro v256 w14 ho15 hb hg_ hnew_; clear hg_ hnew_; (first | rw [← Ny255.out] at ho15 | (simp only [Int.reduceToNat] at ho15; rw [← Ny255.out] at ho15)); have HO257 := qa (Kd.R_lower (Kd.R_new' ho15 (Kd.R_lt (zq3 HO_5))) (keep_size (w := w) (g := g) (row := none) (z61_2 HK))); replace HO_5 := qa (Kd.R_elder' (zq3 HO_5) (Kd.R_base ho15) hb); replace HI0 := qa (IsS51.below (z61_0 HI0) hb); replace HK := qa (KeepBut.trans (z61_2 HK) (KeepBut.of_below hb g none) (.inl rfl)); replace HB := qa (below_step (z61_1 HB) hb); clear hb ho15; obtain ⟨Ao16, co16, eo16⟩ := Kd.R_slice HO_5.out; subst eo16; obtain ⟨Ao17, co17, eo17⟩ := Kd.R_slice HO257.out; subst eo17) | ((with_reducible refine gate_callee (f := 80) rfl ?_); refine qg 26 Tryz.func80 #[.slice Ao16 x5_2.length co16, .slice Ao17 y255.length co17] ?_; (with_reducible refine (spec_poAdd.calls k2 _ _ x5_2 _ _ y255 t258 true _ ?side1 ?side2 ?side3 ?side4 A11.out).mono ?_); (case side1 => repeat (first | exact (Kd.R_reads' HO_5.out).2.2 | (with_reducible refine Kd.C_alloc ?_ _) | (with_reducible refine Kd.C_drewN ?_ _) | (with_reducible refine Kd.C_drew ?_))); (case side2 => exact (Kd.R_reads' HO_5.out).2.1); (case side3 => repeat (first | exact (Kd.R_reads' HO257.out).2.2 | (with_reducible refine Kd.C_alloc ?_ _) | (with_reducible refine Kd.C_drewN ?_ _) | (with_reducible refine Kd.C_drew ?_))); (case side4 => exact (Kd.R_reads' HO257.out).2.1); rintro e w18 ⟨v260, rfl, ho0, hb⟩; refine ⟨_, rfl, ?_⟩; have HO261 := qa (Kd.R_lower (Kd.R_new' (Kd.R_new' ho0 (Kd.R_lt (zq3 HO_5))) (Kd.R_lt (zq3 HO257))) (keep_size (w := w) (g := g) (row := none) (z61_2 HK))); replace HO_5 := qa (Kd.R_elder' (zq3 HO_5) (Kd.R_base ho0) hb); replace HO257 := qa (Kd.R_elder' (zq3 HO257) (Kd.R_base ho0) hb); replace HI0 := qa (IsS51.below (z61_0 HI0) hb); replace HK := qa (KeepBut.trans (z61_2 HK) (KeepBut.of_below hb g none) (.inl rfl)); replace HB := qa (below_step (z61_1 HB) hb); (try clear hb); (try clear hb2); (try clear hk); (try clear hi); (try clear ho0)))
       go_roundg k2
       case measure => have := HJ4.out; have := HK2.out; omega
       case rel => exact ⟨(t258), (wrap64 (x7_2 + 1)), (t253), (t254), qf, H', ⟨by have := HJ4.out; have := HK2.out; omega⟩, ⟨by (with_reducible repeat (first | apply Kd.R_alloc | apply Kd.R_drewN | apply Kd.R_drew)); exact Kd.R_mono HO261.out (fun _ hk => trivial)⟩, ⟨(z61_0 HI0)⟩, ⟨(z61_2 HK)⟩, ⟨(z61_1 HB)⟩⟩
      ·
       replace c12 := Bool.eq_false_iff.mpr c12
       subst c12
       have H1 : (spec_l1Cur_poly.l0 k2 a1 x5_2 x6_4 (wrap64 (x7_2 + 1)) s0_0 t253 t254) = some (r1, r2, r3) := by rw [if_neg (show ¬ (false = true) by decide)] at H; exact H
       clear H
       have H := H1
       clear H1
       have H' := qa H
       clear H
       go_wp2_with (first | ((with_reducible refine gate_callee (f := 81) rfl ?_); refine qg 24 Tryz.func81 #[.pointer (some ⟨g, 0, none⟩), .int .i64 a1] ?_; (with_reducible refine (spec_l1Cur_term.calls k2 g s0_0 x1001_2 x1002_2 a1 t249 t250 t251 t252 t253 t254 w0 _ ?side1 ?side2 A10.out).mono ?_); (case side1 => exact z61_0 HI0); (case side2 => exact z61_1 HB); rintro e w19 ⟨rfl, hi, hb, hk⟩; refine ⟨_, rfl, ?_⟩; replace HO_5 := qa (Kd.R_mono (Kd.R_keep (IsS51.apart (show IsS51 w0 _ g s0_0 x1001_2 x1002_2 from (z61_0 HI0)) (zq3 HO_5) (by decide)) hk (fun _ h => h.2)) (fun _ h => h.1)); replace HK := qa (KeepBut.trans (z61_2 HK) hk (.inl rfl)); replace HB := qa (hb); replace HI0 := qa (hi); (try clear hb); (try clear hb2); (try clear hk); (try clear hi)) | ((with_reducible refine gate_dst (N := 25) rfl ?_); refine Kd.R_lit k62 _ 62 ?hg (N := 25) ?hd (xs := ([(⟨t249, t250, t251, t252⟩ : S62)] : List (S62))) (inner := [.int .i64 t249, .int .i64 t250, .int .i64 t251, .int .i64 t252]) (ok := fun _ => True) (okp := fun _ => True) ?hr ?hp (fun _ hk => hk) trivial (Below.refl _ _) (Nat.le_refl _) (by simp) ?_; (case hd => rfl); (case hg => rfl); (case hr => first | (go_simp; done) | (go_simp; rfl)); (case hp => exact (Reps.c4 (show Kd.M k62 _ _ _ (⟨t249, t250, t251, t252⟩ : S62) [.int .i64 t249, .int .i64 t250, .int .i64 t251, .int .i64 t252] from (k62_mkM _ _ _ (⟨t249, t250, t251, t252⟩ : S62) )) (Reps.none _ _))); intro v256 w20 ho21 hb hg_ hnew_; clear hg_ hnew_; (first | rw [← Ny255.out] at ho21 | (simp only [Int.reduceToNat] at ho21; rw [← Ny255.out] at ho21)); have HO257 := qa (Kd.R_lower (Kd.R_new' ho21 (Kd.R_lt (zq3 HO_5))) (keep_size (w := w) (g := g) (row := none) (z61_2 HK))); replace HO_5 := qa (Kd.R_elder' (zq3 HO_5) (Kd.R_base ho21) hb); replace HI0 := qa (IsS51.below (z61_0 HI0) hb); replace HK := qa (KeepBut.trans (z61_2 HK) (KeepBut.of_below hb g none) (.inl rfl)); replace HB := qa (below_step (z61_1 HB) hb); clear hb ho21; obtain ⟨Ao22, co22, eo22⟩ := Kd.R_slice HO_5.out; subst eo22; obtain ⟨Ao23, co23, eo23⟩ := Kd.R_slice HO257.out; subst eo23) | ((with_reducible refine gate_callee (f := 80) rfl ?_); refine qg 26 Tryz.func80 #[.slice Ao22 x5_2.length co22, .slice Ao23 y255.length co23] ?_; (with_reducible refine (spec_poAdd.calls k2 _ _ x5_2 _ _ y255 t258 false _ ?side1 ?side2 ?side3 ?side4 A11.out).mono ?_); (case side1 => repeat (first | exact (Kd.R_reads' HO_5.out).2.2 | (with_reducible refine Kd.C_alloc ?_ _) | (with_reducible refine Kd.C_drewN ?_ _) | (with_reducible refine Kd.C_drew ?_))); (case side2 => exact (Kd.R_reads' HO_5.out).2.1); (case side3 => repeat (first | exact (Kd.R_reads' HO257.out).2.2 | (with_reducible refine Kd.C_alloc ?_ _) | (with_reducible refine Kd.C_drewN ?_ _) | (with_reducible refine Kd.C_drew ?_))); (case side4 => exact (Kd.R_reads' HO257.out).2.1); rintro e w24 ⟨v260, rfl, ho0, hb⟩; refine ⟨_, rfl, ?_⟩; have HO261 := qa (Kd.R_lower (Kd.R_new' (Kd.R_new' ho0 (Kd.R_lt (zq3 HO_5))) (Kd.R_lt (zq3 HO257))) (keep_size (w := w) (g := g) (row := none) (z61_2 HK))); replace HO_5 := qa (Kd.R_elder' (zq3 HO_5) (Kd.R_base ho0) hb); replace HO257 := qa (Kd.R_elder' (zq3 HO257) (Kd.R_base ho0) hb); replace HI0 := qa (IsS51.below (z61_0 HI0) hb); replace HK := qa (KeepBut.trans (z61_2 HK) (KeepBut.of_below hb g none) (.inl rfl)); replace HB := qa (below_step (z61_1 HB) hb); (try clear hb); (try clear hb2); (try clear hk); (try clear hi); (try clear ho0)))
       go_roundg k2
       case measure => have := HJ4.out; have := HK2.out; omega
       case rel => exact ⟨(x5_2), (wrap64 (x7_2 + 1)), (t253), (t254), qf, H', ⟨by have := HJ4.out; have := HK2.out; omega⟩, ⟨by (with_reducible repeat (first | apply Kd.R_alloc | apply Kd.R_drewN | apply Kd.R_drew)); exact Kd.R_mono HO_5.out (fun _ hk => trivial)⟩, ⟨(z61_0 HI0)⟩, ⟨(z61_2 HK)⟩, ⟨(z61_1 HB)⟩⟩
     ·
      rw [if_neg c9] at H
      have c9b0 := decide_eq_false c9
      clear c9
      replace H := qo H
      obtain ⟨⟨t246, t247, t248⟩, A25, H⟩ := H
      replace H : (if t246 = true then (some (([] : List (S62)), t247, t248)) else (some (x5_2, t247, t248))) = some (r1, r2, r3) := H
      by_cases c26 : t246 = true
      ·
       subst c26
       have H1 : (some (([] : List (S62)), t247, t248)) = some (r1, r2, r3) := by rw [if_pos rfl] at H; exact H
       clear H
       have H := H1
       clear H1
       simp only [Option.some.injEq, Prod.mk.injEq] at H
       obtain ⟨rfl, rfl, rfl⟩ := H
       go_wp2_with (first | ((with_reducible refine gate_callee (f := 28) rfl ?_); refine qg 32 Tryz.func28 #[.pointer (some ⟨g, 0, none⟩), .int .i64 24] ?_; (with_reducible refine (spec_l1Cur_one.calls g s0_0 x1001_2 x1002_2 24 true t247 t248 w0 _ ?side1 ?side2 A25.out).mono ?_); (case side1 => exact z61_0 HI0); (case side2 => exact z61_1 HB); rintro e w27 ⟨rfl, hi, hb, hk⟩; refine ⟨_, rfl, ?_⟩; replace HO_5 := qa (Kd.R_mono (Kd.R_keep (IsS51.apart (show IsS51 w0 _ g s0_0 x1001_2 x1002_2 from (z61_0 HI0)) (zq3 HO_5) (by decide)) hk (fun _ h => h.2)) (fun _ h => h.1)); replace HK := qa (KeepBut.trans (z61_2 HK) hk (.inl rfl)); replace HB := qa (hb); replace HI0 := qa (hi); (try clear hb); (try clear hb2); (try clear hk); (try clear hi)))
       go_ret
       exact ⟨_, by first | rfl | (simp [errW_none, errW_some] <;> rfl) | (simp [*, errW_none, errW_some] <;> rfl), by first | exact Kd.R_nil _ _ _ _ _ | exact Kd.N_nil _ _ _ _ _ | exact Kd.V_nil _ _ _ _ _ | exact Kd.Q_nil _ _ _ _ _ | exact Kd.S_nil _ _ _ _ _, (z61_0 HI0), (z61_1 HB), (z61_2 HK)⟩
      ·
       replace c26 := Bool.eq_false_iff.mpr c26
       subst c26
       have H1 : (some (x5_2, t247, t248)) = some (r1, r2, r3) := by rw [if_neg (show ¬ (false = true) by decide)] at H; exact H
       clear H
       have H := H1
       clear H1
       simp only [Option.some.injEq, Prod.mk.injEq] at H
       obtain ⟨rfl, rfl, rfl⟩ := H
       go_wp2_with (first | ((with_reducible refine gate_callee (f := 28) rfl ?_); refine qg 32 Tryz.func28 #[.pointer (some ⟨g, 0, none⟩), .int .i64 24] ?_; (with_reducible refine (spec_l1Cur_one.calls g s0_0 x1001_2 x1002_2 24 false t247 t248 w0 _ ?side1 ?side2 A25.out).mono ?_); (case side1 => exact z61_0 HI0); (case side2 => exact z61_1 HB); rintro e w28 ⟨rfl, hi, hb, hk⟩; refine ⟨_, rfl, ?_⟩; replace HO_5 := qa (Kd.R_mono (Kd.R_keep (IsS51.apart (show IsS51 w0 _ g s0_0 x1001_2 x1002_2 from (z61_0 HI0)) (zq3 HO_5) (by decide)) hk (fun _ h => h.2)) (fun _ h => h.1)); replace HK := qa (KeepBut.trans (z61_2 HK) hk (.inl rfl)); replace HB := qa (hb); replace HI0 := qa (hi); (try clear hb); (try clear hb2); (try clear hk); (try clear hi)))
       go_ret
       exact ⟨_, by first | rfl | (simp [errW_none, errW_some] <;> rfl) | (simp [*, errW_none, errW_some] <;> rfl), by (with_reducible repeat (first | apply Kd.R_alloc | apply Kd.R_drewN | apply Kd.R_drew)); exact HO_5.out, (z61_0 HI0), (z61_1 HB), (z61_2 HK)⟩
/-! ### spec_l1Cur_anyPoly: function 26 -/
theorem z26_0 {P Q : Prop} (h : Aside0 (Q)) (f : Q → P := by intro h_; repeat (first | (with_reducible first | exact h_ | apply IsS51.alloc | apply IsS51.drewN | apply IsS51.drew | apply IsS51.set_1 | apply IsS51.set_2) | exact h_)) : P := f h.out
theorem z26_1 {w W0 W1 : World} {B : Nat} (h : Aside0 (Below B w W0)) (f : Below B w W0 → Below B w W1 := by intro h_; repeat (first | (with_reducible first | exact h_ | apply below_alloc | apply pw_below_drewN | apply below_drew1 | refine below_set ?_ (IsS51.ge (Aside0.out (by assumption)))) | exact h_)) : Below B w W1 := f h.out
theorem z26_2 {w W0 W1 : World} {g : Nat} {row : Option Nat} (h : Aside0 (KeepBut w W0 g row)) (f : KeepBut w W0 g row → KeepBut w W1 g row := by intro h_; repeat (first | (with_reducible first | exact h_ | apply KeepBut.set_ | apply keep_drewN | apply keep_drew | apply keep_alloc) | exact h_)) : KeepBut w W1 g row := f h.out
set_option maxHeartbeats 8000000 in
set_option maxRecDepth 100000 in
theorem spec_l1Cur_anyPoly.calls (k : Nat) (g : Nat) (s0_0 : List Int) (s0_1 : Int) (s0_2 : Int) (a1 : Int) (r1 : List (S62)) (r2 : Int) (r3 : Int) (w0 w : World) (hI : IsS51 w0 w g s0_0 s0_1 s0_2) (hB : Below w0.heap.size w0 w) (h : spec_l1Cur_anyPoly.f k s0_0 s0_1 s0_2 a1 = some (r1, r2, r3)) :
  Calls Tryz.prog 26 #[.pointer (some ⟨g, 0, none⟩), .int .i64 a1] w fun e w' => ∃ v0_ : Value, e = .returned (v0_) ∧ Kd.R k62 62 w' w.heap.size (fun _ => True) v0_ r1 ∧ IsS51 w0 w' g s0_0 r2 r3 ∧ Below w0.heap.size w0 w' ∧ KeepBut w w' g none := by
 have hu62 := Tryz.underlying62
 have HI0 := qa hI
 have HK := qa (KeepBut.refl w g none)
 have HL := qa hB.size
 clear hI
 have HW0 := qa hB.size
 have HB := qa hB
 clear hB
 have H : ((spec_l1Cur_poly.f k s0_0 s0_1 s0_2 a1).bind fun bt262 => ((spec_l1Cur_pick.f s0_0 bt262.2.1 bt262.2.2 40).bind fun bt267 => (if bt267.1 = 0 then ((spec_l1Cur_among.f s0_0 bt267.2.1 bt267.2.2 (([0, 1, 1001, (-1001)] : List Int))).bind fun bt273 => (if bt262.1.length < 4398046511104 then (some ((bt262.1 ++ [(⟨bt273.1, 4, 0, 0⟩ : S62)]), bt273.2.1, bt273.2.2)) else (none))) else (if bt267.1 = 1 then ((spec_l1Cur_among.f s0_0 bt267.2.1 bt267.2.2 (([5, (-1), 4611686018427387904] : List Int))).bind fun bt282 => ((spec_l1Cur_among.f s0_0 bt282.2.1 bt282.2.2 (([0, (-1), 4611686018427387904] : List Int))).bind fun bt288 => (if bt262.1.length < 4398046511104 then (some ((bt262.1 ++ [(⟨1, bt282.1, bt288.1, 0⟩ : S62)]), bt288.2.1, bt288.2.2)) else (none)))) else (if bt267.1 = 2 then (if bt262.1.length + bt262.1.length < 4398046511104 then (some ((bt262.1 ++ bt262.1), bt267.2.1, bt267.2.2)) else (none)) else (if bt267.1 = 3 then (spec_l1Cur_anyPoly.l0 k ([] : List (S62)) 0 s0_0 bt267.2.1 bt267.2.2) else (some (bt262.1, bt267.2.1, bt267.2.2)))))))) = some (r1, r2, r3) := h
 clear h
 replace H := qo H
 obtain ⟨⟨t262, t265, t266⟩, A3, H⟩ := H
 replace H : ((spec_l1Cur_pick.f s0_0 t265 t266 40).bind fun bt267 => (if bt267.1 = 0 then ((spec_l1Cur_among.f s0_0 bt267.2.1 bt267.2.2 (([0, 1, 1001, (-1001)] : List Int))).bind fun bt273 => (if t262.length < 4398046511104 then (some ((t262 ++ [(⟨bt273.1, 4, 0, 0⟩ : S62)]), bt273.2.1, bt273.2.2)) else (none))) else (if bt267.1 = 1 then ((spec_l1Cur_among.f s0_0 bt267.2.1 bt267.2.2 (([5, (-1), 4611686018427387904] : List Int))).bind fun bt282 => ((spec_l1Cur_among.f s0_0 bt282.2.1 bt282.2.2 (([0, (-1), 4611686018427387904] : List Int))).bind fun bt288 => (if t262.length < 4398046511104 then (some ((t262 ++ [(⟨1, bt282.1, bt288.1, 0⟩ : S62)]), bt288.2.1, bt288.2.2)) else (none)))) else (if bt267.1 = 2 then (if t262.length + t262.length < 4398046511104 then (some ((t262 ++ t262), bt267.2.1, bt267.2.2)) else (none)) else (if bt267.1 = 3 then (spec_l1Cur_anyPoly.l0 k ([] : List (S62)) 0 s0_0 bt267.2.1 bt267.2.2) else (some (t262, bt267.2.1, bt267.2.2))))))) = some (r1, r2, r3) := H
 replace H := qo H
 obtain ⟨⟨t267, t268, t269⟩, A4, H⟩ := H
 replace H : (if t267 = 0 then ((spec_l1Cur_among.f s0_0 t268 t269 (([0, 1, 1001, (-1001)] : List Int))).bind fun bt273 => (if t262.length < 4398046511104 then (some ((t262 ++ [(⟨bt273.1, 4, 0, 0⟩ : S62)]), bt273.2.1, bt273.2.2)) else (none))) else (if t267 = 1 then ((spec_l1Cur_among.f s0_0 t268 t269 (([5, (-1), 4611686018427387904] : List Int))).bind fun bt282 => ((spec_l1Cur_among.f s0_0 bt282.2.1 bt282.2.2 (([0, (-1), 4611686018427387904] : List Int))).bind fun bt288 => (if t262.length < 4398046511104 then (some ((t262 ++ [(⟨1, bt282.1, bt288.1, 0⟩ : S62)]), bt288.2.1, bt288.2.2)) else (none)))) else (if t267 = 2 then (if t262.length + t262.length < 4398046511104 then (some ((t262 ++ t262), t268, t269)) else (none)) else (if t267 = 3 then (spec_l1Cur_anyPoly.l0 k ([] : List (S62)) 0 s0_0 t268 t269) else (some (t262, t268, t269)))))) = some (r1, r2, r3) := H
 by_cases c5 : t267 = 0
 ·
  rw [if_pos c5] at H
  have c5b0 : (t267 == 0) = true := beq_iff_eq.mpr c5
  have c5b1 : (t267 != 0) = false := bne_eq_false_iff_eq.mpr c5
  clear c5
  obtain ⟨y270, hy270⟩ : ∃ y_ : List Int, y_ = (([0, 1, 1001, (-1001)] : List Int)) := ⟨_, rfl⟩
  replace H : ((spec_l1Cur_among.f s0_0 t268 t269 y270).bind fun bt273 => (if t262.length < 4398046511104 then (some ((t262 ++ [(⟨bt273.1, 4, 0, 0⟩ : S62)]), bt273.2.1, bt273.2.2)) else (none))) = some (r1, r2, r3) := by first | (rw [hy270]; with_reducible exact H) | (have H2_ := (Option.bind_some _ _).symm.trans H; rw [hy270]; with_reducible exact H2_) | (have H2_ := (Option.bind_some _ _).symm.trans H; with_reducible exact H2_) | with_reducible exact H | (rw [hy270]; exact H) | exact H
  have Ny270 := qa hy270
  clear hy270
  replace H := qo H
  obtain ⟨⟨t273, t274, t275⟩, A6, H⟩ := H
  replace H : (if t262.length < 4398046511104 then (some ((t262 ++ [(⟨t273, 4, 0, 0⟩ : S62)]), t274, t275)) else (none)) = some (r1, r2, r3) := H
  by_cases c7 : t262.length < 4398046511104
  ·
   rw [if_pos c7] at H
   have LMc7 := qa c7
   clear c7
   obtain ⟨y276, hy276⟩ : ∃ y_ : List (S62), y_ = (t262 ++ [(⟨t273, 4, 0, 0⟩ : S62)]) := ⟨_, rfl⟩
   replace H : (some (y276, t274, t275)) = some (r1, r2, r3) := by first | (rw [hy276]; with_reducible exact H) | (have H2_ := (Option.bind_some _ _).symm.trans H; rw [hy276]; with_reducible exact H2_) | (have H2_ := (Option.bind_some _ _).symm.trans H; with_reducible exact H2_) | with_reducible exact H | (rw [hy276]; exact H) | exact H
   have Ny276 := qa hy276
   clear hy276
   simp only [Option.some.injEq, Prod.mk.injEq] at H
   obtain ⟨rfl, rfl, rfl⟩ := H
   go_enter Tryz.func26, Tryz.ntmps26
   go_wp2_with (first | ((with_reducible refine gate_callee (f := 61) rfl ?_); refine qg 11 Tryz.func61 #[.pointer (some ⟨g, 0, none⟩), .int .i64 a1] ?_; (with_reducible refine (spec_l1Cur_poly.calls k g s0_0 s0_1 s0_2 a1 t262 t265 t266 w0 _ ?side1 ?side2 A3.out).mono ?_); (case side1 => exact z26_0 HI0); (case side2 => exact z26_1 HB); rintro e w8 ⟨v263, rfl, ho0, hi, hb, hk⟩; refine ⟨_, rfl, ?_⟩; have HO264 := qa (Kd.R_lower ho0 (keep_size (w := w) (g := g) (row := none) (z26_2 HK))); replace HK := qa (KeepBut.trans (z26_2 HK) hk (.inl rfl)); replace HB := qa (hb); replace HI0 := qa (hi); (try clear hb); (try clear hb2); (try clear hk); (try clear hi); (try clear ho0)) | ((with_reducible refine gate_callee (f := 27) rfl ?_); refine qg 13 Tryz.func27 #[.pointer (some ⟨g, 0, none⟩), .int .i64 40] ?_; (with_reducible refine (spec_l1Cur_pick.calls g s0_0 t265 t266 40 t267 t268 t269 w0 _ ?side1 ?side2 A4.out).mono ?_); (case side1 => exact z26_0 HI0); (case side2 => exact z26_1 HB); rintro e w9 ⟨rfl, hi, hb, hk⟩; refine ⟨_, rfl, ?_⟩; replace HO264 := qa (Kd.R_mono (Kd.R_keep (IsS51.apart (show IsS51 w0 _ g s0_0 t265 t266 from (z26_0 HI0)) (zq3 HO264) (by decide)) hk (fun _ h => h.2)) (fun _ h => h.1)); replace HK := qa (KeepBut.trans (z26_2 HK) hk (.inl rfl)); replace HB := qa (hb); replace HI0 := qa (hi); (try clear hb); (try clear hb2); (try clear hk); (try clear hi)) | ((with_reducible refine gate_dst (N := 18) rfl ?_); (try (refine gate_guard (by rfl) ?_; dsimp only)); refine Kd.R_lit (Kd.int .i64) _ 3 ?hg (N := 18) ?hd (xs := ([0, 1, 1001, (-1001)] : List Int)) (inner := [.int .i64 0, .int .i64 1, .int .i64 1001, .int .i64 (-1001)]) (ok := fun _ => True) (okp := fun _ => True) ?hr ?hp (fun _ hk => hk) trivial (Below.refl _ _) (Nat.le_refl _) (by simp) ?_; (case hd => rfl); (case hg => rfl); (case hr => first | (go_simp; done) | (go_simp; rfl)); (case hp => exact (Reps.one (show Kd.M (Kd.int .i64) _ _ _ 0 [.int .i64 0] from rfl) (Reps.one (show Kd.M (Kd.int .i64) _ _ _ 1 [.int .i64 1] from rfl) (Reps.one (show Kd.M (Kd.int .i64) _ _ _ 1001 [.int .i64 1001] from rfl) (Reps.one (show Kd.M (Kd.int .i64) _ _ _ (-1001) [.int .i64 (-1001)] from rfl) (Reps.none _ _)))))); intro v271 w10 ho11 hb hg_ hnew_; clear hg_ hnew_; (first | rw [← Ny270.out] at ho11 | (simp only [Int.reduceToNat] at ho11; rw [← Ny270.out] at ho11)); have HO272 := qa (Kd.R_lower ho11 (keep_size (w := w) (g := g) (row := none) (z26_2 HK))); replace HO264 := qa (Kd.R_below (zq3 HO264) hb); replace HI0 := qa (IsS51.below (z26_0 HI0) hb); replace HK := qa (KeepBut.trans (z26_2 HK) (KeepBut.of_below hb g none) (.inl rfl)); replace HB := qa (below_step (z26_1 HB) hb); clear hb ho11; obtain ⟨Ao12, co12, eo12⟩ := Kd.R_slice HO272.out; subst eo12) | ((with_reducible refine gate_callee (f := 45) rfl ?_); refine qg 19 Tryz.func45 #[.pointer (some ⟨g, 0, none⟩), .slice Ao12 y270.length co12] ?_; (with_reducible refine (spec_l1Cur_among.calls g s0_0 t268 t269 _ _ y270 t273 t274 t275 w0 _ ?side1 ?side2 ?side3 ?side4 ?side5 A6.out).mono ?_); (case side1 => exact z26_0 HI0); (case side2 => exact z26_1 HB); (case side3 => repeat (first | exact (Kd.R_reads' HO272.out).2.2 | (with_reducible refine Kd.C_alloc ?_ _) | (with_reducible refine Kd.C_drewN ?_ _) | (with_reducible refine Kd.C_drew ?_))); (case side4 => exact (Kd.R_reads' HO272.out).2.1); (case side5 => exact far_slice (IsS51.own_ne HI0.out HO272.out (by decide))); rintro e w13 ⟨rfl, hi, hb, hk⟩; refine ⟨_, rfl, ?_⟩; replace HO264 := qa (Kd.R_mono (Kd.R_keep (IsS51.apart (show IsS51 w0 _ g s0_0 t268 t269 from (z26_0 HI0)) (zq3 HO264) (by decide)) hk (fun _ h => h.2)) (fun _ h => h.1)); replace HO272 := qa (Kd.R_mono (Kd.R_keep (IsS51.apart (show IsS51 w0 _ g s0_0 t268 t269 from (z26_0 HI0)) (zq3 HO272) (by decide)) hk (fun _ h => h.2)) (fun _ h => h.1)); replace HK := qa (KeepBut.trans (z26_2 HK) hk (.inl rfl)); replace HB := qa (hb); replace HI0 := qa (hi); (try clear hb); (try clear hb2); (try clear hk); (try clear hi)) | ((with_reducible refine gate_builtin (b := .append) (xs := #[.tmp 16, .tmp 21]) rfl ?_); (try (refine gate_guard (by rfl) ?_; dsimp only)); at_builtin; refine Kd.R_append k62 w.heap.size rfl (.tmp 16) (.tmp 21) 24 62 (.agg #[(.int .i64 0), (.int .i64 0), (.int .i64 0), (.int .i64 0)]) 32 rfl Tryz.underlying24 info62 rfl (by decide) (by omega) v263 t262 (⟨t273, 4, 0, 0⟩ : S62) [.int .i64 t273, .int .i64 4, .int .i64 0, .int .i64 0] (fun _ => True) (fun _ => False) rfl rfl ?aP (fun _ hk => hk.elim) ?aF ?aO (Below.refl _ _) ?aS ?aL ?_; (case aP => exact k62_mkM _ _ _ (⟨t273, 4, 0, 0⟩ : S62)); (case aF => exact (fun _ _ => trivial)); (case aO => exact (zq3 HO264)); (case aS => exact (keep_size (w := w) (g := g) (row := none) (z26_2 HK))); (case aL => have := LMc7.out; omega); intro v277 w14 ho hb hg hat; rw [← Ny276.out] at ho; have HO278 := qa (ho); replace HI0 := qa (IsS51.grown (z26_0 HI0) hg (IsS51.own_ne HI0.out HO264.out (by decide))); replace HO272 := qa (Kd.R_over' (zq3 HO272) (Kd.R_typed (zq3 HO264)) (by decide) hg); replace HB := qa (below_weaken (z26_1 HB) HL.out hb); replace HK := qa (KeepBut.trans (z26_2 HK) (KeepBut.of_grown hg g) (Kd.R_base2 HO264.out)); clear HO264; clear ho hb hg hat))
   go_ret
   exact ⟨_, by first | rfl | (simp [errW_none, errW_some] <;> rfl) | (simp [*, errW_none, errW_some] <;> rfl), by (with_reducible repeat (first | apply Kd.R_alloc | apply Kd.R_drewN | apply Kd.R_drew)); exact HO278.out, (z26_0 HI0), (z26_1 HB), (z26_2 HK)⟩
  ·
   rw [if_neg c7] at H
   exact absurd H (by simp)
 ·
  rw [if_neg c5] at H
  have c5b0 : (t267 == 0) = false := beq_eq_false_iff_ne.mpr c5
  have c5b1 : (t267 != 0) = true := bne_iff_ne.mpr c5
  by_cases c15 : t267 = 1
  ·
   rw [if_pos c15] at H
   have c15b0 : (t267 == 1) = true := beq_iff_eq.mpr c15
   have c15b1 : (t267 != 1) = false := bne_eq_false_iff_eq.mpr c15
   clear c15
   obtain ⟨y279, hy279⟩ : ∃ y_ : List Int, y_ = (([5, (-1), 4611686018427387904] : List Int)) := ⟨_, rfl⟩
   replace H : ((spec_l1Cur_among.f s0_0 t268 t269 y279).bind fun bt282 => ((spec_l1Cur_among.f s0_0 bt282.2.1 bt282.2.2 (([0, (-1), 4611686018427387904] : List Int))).bind fun bt288 => (if t262.length < 4398046511104 then (some ((t262 ++ [(⟨1, bt282.1, bt288.1, 0⟩ : S62)]), bt288.2.1, bt288.2.2)) else (none)))) = some (r1, r2, r3) := by first | (rw [hy279]; with_reducible exact H) | (have H2_ := (Option.bind_some _ _).symm.trans H; rw [hy279]; with_reducible exact H2_) | (have H2_ := (Option.bind_some _ _).symm.trans H; with_reducible exact H2_) | with_reducible exact H | (rw [hy279]; exact H) | exact H
   have Ny279 := qa hy279
   clear hy279
   replace H := qo H
   obtain ⟨⟨t282, t283, t284⟩, A16, H⟩ := H
   replace H : ((spec_l1Cur_among.f s0_0 t283 t284 (([0, (-1), 4611686018427387904] : List Int))).bind fun bt288 => (if t262.length < 4398046511104 then (some ((t262 ++ [(⟨1, t282, bt288.1, 0⟩ : S62)]), bt288.2.1, bt288.2.2)) else (none))) = some (r1, r2, r3) := H
   obtain ⟨y285, hy285⟩ : ∃ y_ : List Int, y_ = (([0, (-1), 4611686018427387904] : List Int)) := ⟨_, rfl⟩
   replace H : ((spec_l1Cur_among.f s0_0 t283 t284 y285).bind fun bt288 => (if t262.length < 4398046511104 then (some ((t262 ++ [(⟨1, t282, bt288.1, 0⟩ : S62)]), bt288.2.1, bt288.2.2)) else (none))) = some (r1, r2, r3) := by first | (rw [hy285]; with_reducible exact H) | (have H2_ := (Option.bind_some _ _).symm.trans H; rw [hy285]; with_reducible exact H2_) | (have H2_ := (Option.bind_some _ _).symm.trans H; with_reducible exact H2_) | with_reducible exact H | (rw [hy285]; exact H) | exact H
   have Ny285 := qa hy285
   clear hy285
   replace H := qo H
   obtain ⟨⟨t288, t289, t290⟩, A17, H⟩ := H
   replace H : (if t262.length < 4398046511104 then (some ((t262 ++ [(⟨1, t282, t288, 0⟩ : S62)]), t289, t290)) else (none)) = some (r1, r2, r3) := H
   by_cases c18 : t262.length < 4398046511104
   ·
    rw [if_pos c18] at H
    have LMc18 := qa c18
    clear c18
    obtain ⟨y291, hy291⟩ : ∃ y_ : List (S62), y_ = (t262 ++ [(⟨1, t282, t288, 0⟩ : S62)]) := ⟨_, rfl⟩
    replace H : (some (y291, t289, t290)) = some (r1, r2, r3) := by first | (rw [hy291]; with_reducible exact H) | (have H2_ := (Option.bind_some _ _).symm.trans H; rw [hy291]; with_reducible exact H2_) | (have H2_ := (Option.bind_some _ _).symm.trans H; with_reducible exact H2_) | with_reducible exact H | (rw [hy291]; exact H) | exact H
    have Ny291 := qa hy291
    clear hy291
    simp only [Option.some.injEq, Prod.mk.injEq] at H
    obtain ⟨rfl, rfl, rfl⟩ := H
    go_enter Tryz.func26, Tryz.ntmps26
    go_wp2_with (first | ((with_reducible refine gate_callee (f := 61) rfl ?_); refine qg 11 Tryz.func61 #[.pointer (some ⟨g, 0, none⟩), .int .i64 a1] ?_; (with_reducible refine (spec_l1Cur_poly.calls k g s0_0 s0_1 s0_2 a1 t262 t265 t266 w0 _ ?side1 ?side2 A3.out).mono ?_); (case side1 => exact z26_0 HI0); (case side2 => exact z26_1 HB); rintro e w19 ⟨v263, rfl, ho0, hi, hb, hk⟩; refine ⟨_, rfl, ?_⟩; have HO264 := qa (Kd.R_lower ho0 (keep_size (w := w) (g := g) (row := none) (z26_2 HK))); replace HK := qa (KeepBut.trans (z26_2 HK) hk (.inl rfl)); replace HB := qa (hb); replace HI0 := qa (hi); (try clear hb); (try clear hb2); (try clear hk); (try clear hi); (try clear ho0)) | ((with_reducible refine gate_callee (f := 27) rfl ?_); refine qg 13 Tryz.func27 #[.pointer (some ⟨g, 0, none⟩), .int .i64 40] ?_; (with_reducible refine (spec_l1Cur_pick.calls g s0_0 t265 t266 40 t267 t268 t269 w0 _ ?side1 ?side2 A4.out).mono ?_); (case side1 => exact z26_0 HI0); (case side2 => exact z26_1 HB); rintro e w20 ⟨rfl, hi, hb, hk⟩; refine ⟨_, rfl, ?_⟩; replace HO264 := qa (Kd.R_mono (Kd.R_keep (IsS51.apart (show IsS51 w0 _ g s0_0 t265 t266 from (z26_0 HI0)) (zq3 HO264) (by decide)) hk (fun _ h => h.2)) (fun _ h => h.1)); replace HK := qa (KeepBut.trans (z26_2 HK) hk (.inl rfl)); replace HB := qa (hb); replace HI0 := qa (hi); (try clear hb); (try clear hb2); (try clear hk); (try clear hi)) | ((with_reducible refine gate_dst (N := 27) rfl ?_); (try (refine gate_guard (by rfl) ?_; dsimp only)); refine Kd.R_lit (Kd.int .i64) _ 3 ?hg (N := 27) ?hd (xs := ([5, (-1), 4611686018427387904] : List Int)) (inner := [.int .i64 5, .int .i64 (-1), .int .i64 4611686018427387904]) (ok := fun _ => True) (okp := fun _ => True) ?hr ?hp (fun _ hk => hk) trivial (Below.refl _ _) (Nat.le_refl _) (by simp) ?_; (case hd => rfl); (case hg => rfl); (case hr => first | (go_simp; done) | (go_simp; rfl)); (case hp => exact (Reps.one (show Kd.M (Kd.int .i64) _ _ _ 5 [.int .i64 5] from rfl) (Reps.one (show Kd.M (Kd.int .i64) _ _ _ (-1) [.int .i64 (-1)] from rfl) (Reps.one (show Kd.M (Kd.int .i64) _ _ _ 4611686018427387904 [.int .i64 4611686018427387904] from rfl) (Reps.none _ _))))); intro v280 w21 ho22 hb hg_ hnew_; clear hg_ hnew_; (first | rw [← Ny279.out] at ho22 | (simp only [Int.reduceToNat] at ho22; rw [← Ny279.out] at ho22)); have HO281 := qa (Kd.R_lower ho22 (keep_size (w := w) (g := g) (row := none) (z26_2 HK))); replace HO264 := qa (Kd.R_below (zq3 HO264) hb); replace HI0 := qa (IsS51.below (z26_0 HI0) hb); replace HK := qa (KeepBut.trans (z26_2 HK) (KeepBut.of_below hb g none) (.inl rfl)); replace HB := qa (below_step (z26_1 HB) hb); clear hb ho22; obtain ⟨Ao23, co23, eo23⟩ := Kd.R_slice HO281.out; subst eo23) | ((with_reducible refine gate_callee (f := 45) rfl ?_); refine qg 28 Tryz.func45 #[.pointer (some ⟨g, 0, none⟩), .slice Ao23 y279.length co23] ?_; (with_reducible refine (spec_l1Cur_among.calls g s0_0 t268 t269 _ _ y279 t282 t283 t284 w0 _ ?side1 ?side2 ?side3 ?side4 ?side5 A16.out).mono ?_); (case side1 => exact z26_0 HI0); (case side2 => exact z26_1 HB); (case side3 => repeat (first | exact (Kd.R_reads' HO281.out).2.2 | (with_reducible refine Kd.C_alloc ?_ _) | (with_reducible refine Kd.C_drewN ?_ _) | (with_reducible refine Kd.C_drew ?_))); (case side4 => exact (Kd.R_reads' HO281.out).2.1); (case side5 => exact far_slice (IsS51.own_ne HI0.out HO281.out (by decide))); rintro e w24 ⟨rfl, hi, hb, hk⟩; refine ⟨_, rfl, ?_⟩; replace HO264 := qa (Kd.R_mono (Kd.R_keep (IsS51.apart (show IsS51 w0 _ g s0_0 t268 t269 from (z26_0 HI0)) (zq3 HO264) (by decide)) hk (fun _ h => h.2)) (fun _ h => h.1)); replace HO281 := qa (Kd.R_mono (Kd.R_keep (IsS51.apart (show IsS51 w0 _ g s0_0 t268 t269 from (z26_0 HI0)) (zq3 HO281) (by decide)) hk (fun _ h => h.2)) (fun _ h => h.1)); replace HK := qa (KeepBut.trans (z26_2 HK) hk (.inl rfl)); replace HB := qa (hb); replace HI0 := qa (hi); (try clear hb); (try clear hb2); (try clear hk); (try clear hi)) | ((with_reducible refine gate_dst (N := 30) rfl ?_); (try (refine gate_guard (by rfl) ?_; dsimp only)); refine Kd.R_lit (Kd.int .i64) _ 3 ?hg (N := 30) ?hd (xs := ([0, (-1), 4611686018427387904] : List Int)) (inner := [.int .i64 0, .int .i64 (-1), .int .i64 4611686018427387904]) (ok := fun _ => True) (okp := fun _ => True) ?hr ?hp (fun _ hk => hk) trivial (Below.refl _ _) (Nat.le_refl _) (by simp) ?_; (case hd => rfl); (case hg => rfl); (case hr => first | (go_simp; done) | (go_simp; rfl)); (case hp => exact (Reps.one (show Kd.M (Kd.int .i64) _ _ _ 0 [.int .i64 0] from rfl) (Reps.one (show Kd.M (Kd.int .i64) _ _ _ (-1) [.int .i64 (-1)] from rfl) (Reps.one (show Kd.M (Kd.int .i64) _ _ _ 4611686018427387904 [.int .i64 4611686018427387904] from rfl) (Reps.none _ _))))); intro v286 w25 ho26 hb hg_ hnew_; clear hg_ hnew_; (first | rw [← Ny285.out] at ho26 | (simp only [Int.reduceToNat] at ho26; rw [← Ny285.out] at ho26)); have HO287 := qa (Kd.R_lower (Kd.R_new' ho26 (Kd.R_lt (zq3 HO281))) (keep_size (w := w) (g := g) (row := none) (z26_2 HK))); replace HO264 := qa (Kd.R_below (zq3 HO264) hb); replace HO281 := qa (Kd.R_elder' (zq3 HO281) (Kd.R_base ho26) hb); replace HI0 := qa (IsS51.below (z26_0 HI0) hb); replace HK := qa (KeepBut.trans (z26_2 HK) (KeepBut.of_below hb g none) (.inl rfl)); replace HB := qa (below_step (z26_1 HB) hb); clear hb ho26; obtain ⟨Ao27, co27, eo27⟩ := Kd.R_slice HO287.out; subst eo27) | ((with_reducible refine gate_callee (f := 45) rfl ?_); refine qg 31 Tryz.func45 #[.pointer (some ⟨g, 0, none⟩), .slice Ao27 y285.length co27] ?_; (with_reducible refine (spec_l1Cur_among.calls g s0_0 t283 t284 _ _ y285 t288 t289 t290 w0 _ ?side1 ?side2 ?side3 ?side4 ?side5 A17.out).mono ?_); (case side1 => exact z26_0 HI0); (case side2 => exact z26_1 HB); (case side3 => repeat (first | exact (Kd.R_reads' HO287.out).2.2 | (with_reducible refine Kd.C_alloc ?_ _) | (with_reducible refine Kd.C_drewN ?_ _) | (with_reducible refine Kd.C_drew ?_))); (case side4 => exact (Kd.R_reads' HO287.out).2.1); (case side5 => exact far_slice (IsS51.own_ne HI0.out HO287.out (by decide))); rintro e w28 ⟨rfl, hi, hb, hk⟩; refine ⟨_, rfl, ?_⟩; replace HO264 := qa (Kd.R_mono (Kd.R_keep (IsS51.apart (show IsS51 w0 _ g s0_0 t283 t284 from (z26_0 HI0)) (zq3 HO264) (by decide)) hk (fun _ h => h.2)) (fun _ h => h.1)); replace HO281 := qa (Kd.R_mono (Kd.R_keep (IsS51.apart (show IsS51 w0 _ g s0_0 t283 t284 from (z26_0 HI0)) (zq3 HO281) (by decide)) hk (fun _ h => h.2)) (fun _ h => h.1)); replace HO287 := qa (Kd.R_mono (Kd.R_keep (IsS51.apart (show IsS51 w0 _ g s0_0 t283 t284 from (z26_0 HI0)) (zq3 HO287) (by decide)) hk (fun _ h => h.2)) (fun _ h => h.1)); replace HK := qa (KeepBut.trans (z26_2 HK) hk (.inl rfl)); replace HB := qa (hb); replace HI0 := qa (hi); (try clear hb); (try clear hb2); (try clear hk); (try clear hi)) | ((with_reducible refine gate_builtin (b := .append) (xs := #[.tmp 25, .tmp 33]) rfl ?_); (try (refine gate_guard (by rfl) ?_; dsimp only)); at_builtin; refine Kd.R_append k62 w.heap.size rfl (.tmp 25) (.tmp 33) 24 62 (.agg #[(.int .i64 0), (.int .i64 0), (.int .i64 0), (.int .i64 0)]) 32 rfl Tryz.underlying24 info62 rfl (by decide) (by omega) v263 t262 (⟨1, t282, t288, 0⟩ : S62) [.int .i64 1, .int .i64 t282, .int .i64 t288, .int .i64 0] (fun _ => True) (fun _ => False) rfl rfl ?aP (fun _ hk => hk.elim) ?aF ?aO (Below.refl _ _) ?aS ?aL ?_; (case aP => exact k62_mkM _ _ _ (⟨1, t282, t288, 0⟩ : S62)); (case aF => exact (fun _ _ => trivial)); (case aO => exact (zq3 HO264)); (case aS => exact (keep_size (w := w) (g := g) (row := none) (z26_2 HK))); (case aL => have := LMc18.out; omega); intro v292 w29 ho hb hg hat; rw [← Ny291.out] at ho; have HO293 := qa (ho); replace HI0 := qa (IsS51.grown (z26_0 HI0) hg (IsS51.own_ne HI0.out HO264.out (by decide))); replace HO281 := qa (Kd.R_over' (zq3 HO281) (Kd.R_typed (zq3 HO264)) (by decide) hg); replace HO287 := qa (Kd.R_over' (zq3 HO287) (Kd.R_typed (zq3 HO264)) (by decide) hg); replace HB := qa (below_weaken (z26_1 HB) HL.out hb); replace HK := qa (KeepBut.trans (z26_2 HK) (KeepBut.of_grown hg g) (Kd.R_base2 HO264.out)); clear HO264; clear ho hb hg hat))
    go_ret
    exact ⟨_, by first | rfl | (simp [errW_none, errW_some] <;> rfl) | (simp [*, errW_none, errW_some] <;> rfl), by (with_reducible repeat (first | apply Kd.R_alloc | apply Kd.R_drewN | apply Kd.R_drew)); exact HO293.out, (z26_0 HI0), (z26_1 HB), (z26_2 HK)⟩
   ·
    rw [if_neg c18] at H
    exact absurd H (by simp)
  ·
   rw [if_neg c15] at H
   have c15b0 : (t267 == 1) = false := beq_eq_false_iff_ne.mpr c15
   have c15b1 : (t267 != 1) = true := bne_iff_ne.mpr c15
   by_cases c30 : t267 = 2
   ·
    rw [if_pos c30] at H
    have c30b0 : (t267 == 2) = true := beq_iff_eq.mpr c30
    have c30b1 : (t267 != 2) = false := bne_eq_false_iff_eq.mpr c30
    clear c30
    by_cases c31 : t262.length + t262.length < 4398046511104
    ·
     rw [if_pos c31] at H
     have LMc31 := qa c31
     clear c31
     obtain ⟨y294, hy294⟩ : ∃ y_ : List (S62), y_ = (t262 ++ t262) := ⟨_, rfl⟩
     replace H : (some (y294, t268, t269)) = some (r1, r2, r3) := by first | (rw [hy294]; with_reducible exact H) | (have H2_ := (Option.bind_some _ _).symm.trans H; rw [hy294]; with_reducible exact H2_) | (have H2_ := (Option.bind_some _ _).symm.trans H; with_reducible exact H2_) | with_reducible exact H | (rw [hy294]; exact H) | exact H
     have Ny294 := qa hy294
     clear hy294
     simp only [Option.some.injEq, Prod.mk.injEq] at H
     obtain ⟨rfl, rfl, rfl⟩ := H
     go_enter Tryz.func26, Tryz.ntmps26
     go_wp2_with (first | ((with_reducible refine gate_callee (f := 61) rfl ?_); refine qg 11 Tryz.func61 #[.pointer (some ⟨g, 0, none⟩), .int .i64 a1] ?_; (with_reducible refine (spec_l1Cur_poly.calls k g s0_0 s0_1 s0_2 a1 t262 t265 t266 w0 _ ?side1 ?side2 A3.out).mono ?_); (case side1 => exact z26_0 HI0); (case side2 => exact z26_1 HB); rintro e w32 ⟨v263, rfl, ho0, hi, hb, hk⟩; refine ⟨_, rfl, ?_⟩; have HO264 := qa (Kd.R_lower ho0 (keep_size (w := w) (g := g) (row := none) (z26_2 HK))); replace HK := qa (KeepBut.trans (z26_2 HK) hk (.inl rfl)); replace HB := qa (hb); replace HI0 := qa (hi); (try clear hb); (try clear hb2); (try clear hk); (try clear hi); (try clear ho0)) | ((with_reducible refine gate_callee (f := 27) rfl ?_); refine qg 13 Tryz.func27 #[.pointer (some ⟨g, 0, none⟩), .int .i64 40] ?_; (with_reducible refine (spec_l1Cur_pick.calls g s0_0 t265 t266 40 t267 t268 t269 w0 _ ?side1 ?side2 A4.out).mono ?_); (case side1 => exact z26_0 HI0); (case side2 => exact z26_1 HB); rintro e w33 ⟨rfl, hi, hb, hk⟩; refine ⟨_, rfl, ?_⟩; replace HO264 := qa (Kd.R_mono (Kd.R_keep (IsS51.apart (show IsS51 w0 _ g s0_0 t265 t266 from (z26_0 HI0)) (zq3 HO264) (by decide)) hk (fun _ h => h.2)) (fun _ h => h.1)); replace HK := qa (KeepBut.trans (z26_2 HK) hk (.inl rfl)); replace HB := qa (hb); replace HI0 := qa (hi); (try clear hb); (try clear hb2); (try clear hk); (try clear hi); obtain ⟨Ao35, co35, eo35⟩ := Kd.R_slice HO264.out; subst eo35) | ((with_reducible refine gate_builtin (b := .append) (xs := #[.tmp 37, .tmp 38]) rfl ?_); (try (refine gate_guard (by rfl) ?_; dsimp only)); at_builtin; refine Kd.R_append_rows k62 w.heap.size rfl (.tmp 37) (.tmp 38) 24 62 (.agg #[(.int .i64 0), (.int .i64 0), (.int .i64 0), (.int .i64 0)]) 32 rfl Tryz.underlying24 info62 rfl (by decide) (by omega) (.slice Ao35 t262.length co35) t262 t262 _ _ _ (fun _ => True) (fun _ => False) rfl rfl ?aO ?aR (fun _ _ h => h) (fun _ h => h.elim) ?aF (Below.refl _ _) ?aS ?aL ?_; (case aR => repeat (first | exact (Kd.R_reads' HO264.out).2.2 | (with_reducible refine Kd.C_alloc ?_ _) | (with_reducible refine Kd.C_drewN ?_ _) | (with_reducible refine Kd.C_drew ?_))); (case aF => exact (fun _ _ => trivial)); (case aO => exact (zq3 HO264)); (case aS => exact (keep_size (w := w) (g := g) (row := none) (z26_2 HK))); (case aL => have := LMc31.out; omega); intro v295 w34 ho hb hg hat; rw [← Ny294.out] at ho; have HO296 := qa (ho); replace HI0 := qa (IsS51.grown (z26_0 HI0) hg (IsS51.own_ne HI0.out HO264.out (by decide))); replace HB := qa (below_weaken (z26_1 HB) HL.out hb); replace HK := qa (KeepBut.trans (z26_2 HK) (KeepBut.of_grown hg g) (Kd.R_base2 HO264.out)); clear HO264; clear ho hb hg hat))
     go_ret
     exact ⟨_, by first | rfl | (simp [errW_none, errW_some] <;> rfl) | (simp [*, errW_none, errW_some] <;> rfl), by (with_reducible repeat (first | apply Kd.R_alloc | apply Kd.R_drewN | apply Kd.R_drew)); exact HO296.out, (z26_0 HI0), (z26_1 HB), (z26_2 HK)⟩
    ·
     rw [if_neg c31] at H
     exact absurd H (by simp)
   ·
    rw [if_neg c30] at H
    have c30b0 : (t267 == 2) = false := beq_eq_false_iff_ne.mpr c30
    have c30b1 : (t267 != 2) = true := bne_iff_ne.mpr c30
    by_cases c36 : t267 = 3
    ·
     rw [if_pos c36] at H
     have c36b0 : (t267 == 3) = true := beq_iff_eq.mpr c36
     have c36b1 : (t267 != 3) = false := bne_eq_false_iff_eq.mpr c36
     clear c36
     have H' := qa H
     clear H
     go_enter Tryz.func26, Tryz.ntmps26
     go_wp2_with (first | ((with_reducible refine gate_callee (f := 61) rfl ?_); refine qg 11 Tryz.func61 #[.pointer (some ⟨g, 0, none⟩), .int .i64 a1] ?_; (with_reducible refine (spec_l1Cur_poly.calls k g s0_0 s0_1 s0_2 a1 t262 t265 t266 w0 _ ?side1 ?side2 A3.out).mono ?_); (case side1 => exact z26_0 HI0); (case side2 => exact z26_1 HB); rintro e w37 ⟨v263, rfl, ho0, hi, hb, hk⟩; refine ⟨_, rfl, ?_⟩; have HO264 := qa (Kd.R_lower ho0 (keep_size (w := w) (g := g) (row := none) (z26_2 HK))); replace HK := qa (KeepBut.trans (z26_2 HK) hk (.inl rfl)); replace HB := qa (hb); replace HI0 := qa (hi); (try clear hb); (try clear hb2); (try clear hk); (try clear hi); (try clear ho0)) | ((with_reducible refine gate_callee (f := 27) rfl ?_); refine qg 13 Tryz.func27 #[.pointer (some ⟨g, 0, none⟩), .int .i64 40] ?_; (with_reducible refine (spec_l1Cur_pick.calls g s0_0 t265 t266 40 t267 t268 t269 w0 _ ?side1 ?side2 A4.out).mono ?_); (case side1 => exact z26_0 HI0); (case side2 => exact z26_1 HB); rintro e w38 ⟨rfl, hi, hb, hk⟩; refine ⟨_, rfl, ?_⟩; replace HO264 := qa (Kd.R_mono (Kd.R_keep (IsS51.apart (show IsS51 w0 _ g s0_0 t265 t266 from (z26_0 HI0)) (zq3 HO264) (by decide)) hk (fun _ h => h.2)) (fun _ h => h.1)); replace HK := qa (KeepBut.trans (z26_2 HK) hk (.inl rfl)); replace HB := qa (hb); replace HI0 := qa (hi); (try clear hb); (try clear hb2); (try clear hk); (try clear hi)))
     go_loopg [5, 6] k (fun kq v5 v6 w' => ∃ (x5_1 : List (S62)) (x6_1 : Int) (x1001_1 : Int) (x1002_1 : Int), v6 = .int .i64 x6_1 ∧ Aside0 (spec_l1Cur_anyPoly.l0 kq x5_1 x6_1 s0_0 x1001_1 x1002_1 = some (r1, r2, r3)) ∧ Aside0 (kq ≤ k) ∧ Aside0 (Kd.R k62 62 w' w.heap.size (fun _ => True) v5 x5_1) ∧ Aside0 (IsS51 w0 w' g s0_0 x1001_1 x1002_1) ∧ Aside0 (KeepBut w w' g none) ∧ Aside0 (Below w0.heap.size w0 w'))
     case atStart => exact ⟨(([] : List (S62))), (0), (t268), (t269), qf, H', ⟨Nat.le_refl _⟩, ⟨by first | exact Kd.R_nil _ _ _ _ _ | exact Kd.N_nil _ _ _ _ _ | exact Kd.V_nil _ _ _ _ _ | exact Kd.Q_nil _ _ _ _ _ | exact Kd.S_nil _ _ _ _ _⟩, ⟨(z26_0 HI0)⟩, ⟨(z26_2 HK)⟩, ⟨(z26_1 HB)⟩⟩
     case round =>
      clear H'
      try clear c1
      try clear c2
      try clear p2
      try clear c3
      try clear c4
      try clear c5
      try clear c5b0
      try clear c5b1
      try clear c6
      try clear c7
      try clear c15
      try clear c15b0
      try clear c15b1
      try clear c18
      try clear c26
      try clear c27
      try clear c30
      try clear c30b0
      try clear c30b1
      try clear c31
      try clear c36
      try clear c36b0
      try clear c36b1
      obtain ⟨x5_1, x6_1, x1001_1, x1002_1, rfl, HA, HK1, HO_5, HI0, HK, HB⟩ := hrel
      cases gk with
      | zero => exact absurd HA.out (by simp [spec_l1Cur_anyPoly.l0])
      | succ k1 =>
       have H := HA.out
       clear HA
       simp only [spec_l1Cur_anyPoly.l0] at H
       by_cases c39 : x6_1 ≤ 4
       ·
        rw [if_pos c39] at H
        have c39b0 := decide_eq_true c39
        clear c39
        have H' := qa H
        clear H
        go_wp2
        go_loopg [5, 7] k1 (fun kq v5 v7 w' => ∃ (x5_2 : List (S62)) (x7_2 : Int) (x1001_2 : Int) (x1002_2 : Int), v7 = .int .i64 x7_2 ∧ Aside0 (spec_l1Cur_anyPoly.l1 kq x5_2 x6_1 x7_2 s0_0 x1001_2 x1002_2 = some (r1, r2, r3)) ∧ Aside0 (kq ≤ k1) ∧ Aside0 (Kd.R k62 62 w' w.heap.size (fun _ => True) v5 x5_2) ∧ Aside0 (IsS51 w0 w' g s0_0 x1001_2 x1002_2) ∧ Aside0 (KeepBut w w' g none) ∧ Aside0 (Below w0.heap.size w0 w'))
        case atStart => exact ⟨(x5_1), (0), (x1001_1), (x1002_1), qf, H', ⟨Nat.le_refl _⟩, ⟨by (with_reducible repeat (first | apply Kd.R_alloc | apply Kd.R_drewN | apply Kd.R_drew)); exact HO_5.out⟩, ⟨(z26_0 HI0)⟩, ⟨(z26_2 HK)⟩, ⟨(z26_1 HB)⟩⟩
        case round =>
         clear H'
         try clear c1
         try clear c2
         try clear p2
         try clear c3
         try clear c4
         try clear c5
         try clear c5b0
         try clear c5b1
         try clear c6
         try clear c7
         try clear c15
         try clear c15b0
         try clear c15b1
         try clear c18
         try clear c26
         try clear c27
         try clear c30
         try clear c30b0
         try clear c30b1
         try clear c31
         try clear c36
         try clear c36b0
         try clear c36b1
         try clear c39
         try clear c39b0
         try clear p2
         obtain ⟨x5_2, x7_2, x1001_2, x1002_2, rfl, HA, HK2, HO_5, HI0, HK, HB⟩ := hrel
         cases gk with
         | zero => exact absurd HA.out (by simp [spec_l1Cur_anyPoly.l1])
         | succ k2 =>
          have H := HA.out
          clear HA
          simp only [spec_l1Cur_anyPoly.l1] at H
          by_cases c40 : (wrap64 (x6_1 + x7_2)) ≤ 4
          ·
           rw [if_pos c40] at H
           have c40b0 := decide_eq_true c40
           clear c40
           have H' := qa H
           clear H
           go_wp2
           go_loopg [5, 8] k2 (fun kq v5 v8 w' => ∃ (x5_3 : List (S62)) (x8_3 : Int) (x1001_3 : Int) (x1002_3 : Int), v8 = .int .i64 x8_3 ∧ Aside0 (spec_l1Cur_anyPoly.l2 kq x5_3 x6_1 x7_2 x8_3 s0_0 x1001_3 x1002_3 = some (r1, r2, r3)) ∧ Aside0 (kq ≤ k2) ∧ Aside0 (Kd.R k62 62 w' w.heap.size (fun _ => True) v5 x5_3) ∧ Aside0 (IsS51 w0 w' g s0_0 x1001_3 x1002_3) ∧ Aside0 (KeepBut w w' g none) ∧ Aside0 (Below w0.heap.size w0 w'))
           case atStart => exact ⟨(x5_2), (0), (x1001_2), (x1002_2), qf, H', ⟨Nat.le_refl _⟩, ⟨by (with_reducible repeat (first | apply Kd.R_alloc | apply Kd.R_drewN | apply Kd.R_drew)); exact HO_5.out⟩, ⟨(z26_0 HI0)⟩, ⟨(z26_2 HK)⟩, ⟨(z26_1 HB)⟩⟩
           case round =>
            clear H'
            try clear c1
            try clear c2
            try clear p2
            try clear c3
            try clear c4
            try clear c5
            try clear c5b0
            try clear c5b1
            try clear c6
            try clear p6
            try clear c7
            try clear c15
            try clear c15b0
            try clear c15b1
            try clear c18
            try clear c26
            try clear c27
            try clear c30
            try clear c30b0
            try clear c30b1
            try clear c31
            try clear c36
            try clear c36b0
            try clear c36b1
            try clear c39
            try clear c39b0
            try clear c40
            try clear c40b0
            try clear p2
            obtain ⟨x5_3, x8_3, x1001_3, x1002_3, rfl, HA, HK3, HO_5, HI0, HK, HB⟩ := hrel
            cases gk with
            | zero => exact absurd HA.out (by simp [spec_l1Cur_anyPoly.l2])
            | succ k3 =>
             have H := HA.out
             clear HA
             simp only [spec_l1Cur_anyPoly.l2] at H
             by_cases c41 : (wrap64 ((wrap64 (x6_1 + x7_2)) + x8_3)) ≤ 4
             ·
              rw [if_pos c41] at H
              have c41b0 : decide ((wrap64 ((wrap64 (x6_1 + x7_2)) + x8_3)) ≤ 4) = true := decide_eq_true c41
              clear c41
              replace H := qo H
              obtain ⟨⟨t297, t298, t299⟩, A42, H⟩ := H
              replace H : (if (x5_3.length : Int) < (wrap64 (20 + t297)) then (if x5_3.length < 4398046511104 then (spec_l1Cur_anyPoly.l2 k3 (x5_3 ++ [(⟨1, x6_1, x7_2, x8_3⟩ : S62)]) x6_1 x7_2 (wrap64 (x8_3 + 1)) s0_0 t298 t299) else (none)) else (spec_l1Cur_anyPoly.l1 k3 x5_3 x6_1 (wrap64 (x7_2 + 1)) s0_0 t298 t299)) = some (r1, r2, r3) := H
              by_cases c43 : (x5_3.length : Int) < (wrap64 (20 + t297))
              ·
               rw [if_pos c43] at H
               have c43b0 := decide_eq_true c43
               clear c43
               by_cases c44 : x5_3.length < 4398046511104
               ·
                rw [if_pos c44] at H
                have LMc44 := qa c44
                clear c44
                obtain ⟨y300, hy300⟩ : ∃ y_ : List (S62), y_ = (x5_3 ++ [(⟨1, x6_1, x7_2, x8_3⟩ : S62)]) := ⟨_, rfl⟩
                replace H : (spec_l1Cur_anyPoly.l2 k3 y300 x6_1 x7_2 (wrap64 (x8_3 + 1)) s0_0 t298 t299) = some (r1, r2, r3) := by first | (rw [hy300]; with_reducible exact H) | (have H2_ := (Option.bind_some _ _).symm.trans H; rw [hy300]; with_reducible exact H2_) | (have H2_ := (Option.bind_some _ _).symm.trans H; with_reducible exact H2_) | with_reducible exact H | (rw [hy300]; exact H) | exact H
                have Ny300 := qa hy300
                clear hy300
                have H' := qa H
                clear H
                obtain ⟨Ao45, co45, eo45⟩ := Kd.R_slice HO_5.out
                subst eo45
                go_wp2_with (first | (go_at_call 27; (with_reducible refine (spec_l1Cur_pick.calls g s0_0 x1001_3 x1002_3 2 t297 t298 t299 w0 _ ?side1 ?side2 A42.out).mono ?_); (case side1 => exact z26_0 HI0); (case side2 => exact z26_1 HB); rintro e w46 ⟨rfl, hi, hb, hk⟩; replace HO_5 := qa (Kd.R_mono (Kd.R_keep (IsS51.apart (show IsS51 w0 _ g s0_0 x1001_3 x1002_3 from (z26_0 HI0)) (zq3 HO_5) (by decide)) hk (fun _ h => h.2)) (fun _ h => h.1)); replace HK := qa (KeepBut.trans (z26_2 HK) hk (.inl rfl)); replace HB := qa (hb); replace HI0 := qa (hi); (try clear hb); (try clear hb2); (try clear hk); (try clear hi)) | ((with_reducible refine gate_builtin (b := .append) (xs := #[.tmp 68, .tmp 73]) rfl ?_); (try (refine gate_guard (by rfl) ?_; dsimp only)); at_builtin; refine Kd.R_append k62 w.heap.size rfl (.tmp 68) (.tmp 73) 24 62 (.agg #[(.int .i64 0), (.int .i64 0), (.int .i64 0), (.int .i64 0)]) 32 rfl Tryz.underlying24 info62 rfl (by decide) (by omega) (.slice Ao45 x5_3.length co45) x5_3 (⟨1, x6_1, x7_2, x8_3⟩ : S62) [.int .i64 1, .int .i64 x6_1, .int .i64 x7_2, .int .i64 x8_3] (fun _ => True) (fun _ => False) rfl rfl ?aP (fun _ hk => hk.elim) ?aF ?aO (Below.refl _ _) ?aS ?aL ?_; (case aP => exact k62_mkM _ _ _ (⟨1, x6_1, x7_2, x8_3⟩ : S62)); (case aF => exact (fun _ _ => trivial)); (case aO => exact (zq3 HO_5)); (case aS => exact (keep_size (w := w) (g := g) (row := none) (z26_2 HK))); (case aL => have := LMc44.out; omega); intro v301 w47 ho hb hg hat; rw [← Ny300.out] at ho; have HO302 := qa (ho); replace HI0 := qa (IsS51.grown (z26_0 HI0) hg (IsS51.own_ne HI0.out HO_5.out (by decide))); replace HB := qa (below_weaken (z26_1 HB) HL.out hb); replace HK := qa (KeepBut.trans (z26_2 HK) (KeepBut.of_grown hg g) (Kd.R_base2 HO_5.out)); clear HO_5; clear ho hb hg hat))
                go_roundg k3
                case measure => have := HK1.out; have := HK2.out; have := HK3.out; omega
                case rel => exact ⟨(y300), (wrap64 (x8_3 + 1)), (t298), (t299), qf, H', ⟨by have := HK1.out; have := HK2.out; have := HK3.out; omega⟩, ⟨by (with_reducible repeat (first | apply Kd.R_alloc | apply Kd.R_drewN | apply Kd.R_drew)); exact HO302.out⟩, ⟨(z26_0 HI0)⟩, ⟨(z26_2 HK)⟩, ⟨(z26_1 HB)⟩⟩
               ·
                rw [if_neg c44] at H
                exact absurd H (by simp)
              ·
               rw [if_neg c43] at H
               have c43b0 := decide_eq_false c43
               clear c43
               have H' := qa H
               clear H
               obtain ⟨Ao48, co48, eo48⟩ := Kd.R_slice HO_5.out
               subst eo48
               go_wp2_with (first | (go_at_call 27; (with_reducible refine (spec_l1Cur_pick.calls g s0_0 x1001_3 x1002_3 2 t297 t298 t299 w0 _ ?side1 ?side2 A42.out).mono ?_); (case side1 => exact z26_0 HI0); (case side2 => exact z26_1 HB); rintro e w49 ⟨rfl, hi, hb, hk⟩; replace HO_5 := qa (Kd.R_mono (Kd.R_keep (IsS51.apart (show IsS51 w0 _ g s0_0 x1001_3 x1002_3 from (z26_0 HI0)) (zq3 HO_5) (by decide)) hk (fun _ h => h.2)) (fun _ h => h.1)); replace HK := qa (KeepBut.trans (z26_2 HK) hk (.inl rfl)); replace HB := qa (hb); replace HI0 := qa (hi); (try clear hb); (try clear hb2); (try clear hk); (try clear hi)))
               go_roundg k3
               case measure => have := HK1.out; have := HK2.out; have := HK3.out; omega
               case rel => exact ⟨(x5_3), (wrap64 (x7_2 + 1)), (t298), (t299), qf, H', ⟨by have := HK1.out; have := HK2.out; have := HK3.out; omega⟩, ⟨by (with_reducible repeat (first | apply Kd.R_alloc | apply Kd.R_drewN | apply Kd.R_drew)); exact HO_5.out⟩, ⟨(z26_0 HI0)⟩, ⟨(z26_2 HK)⟩, ⟨(z26_1 HB)⟩⟩
             ·
              rw [if_neg c41] at H
              have c41b0 : decide ((wrap64 ((wrap64 (x6_1 + x7_2)) + x8_3)) ≤ 4) = false := decide_eq_false c41
              clear c41
              have H' := qa H
              clear H
              go_wp2
              go_roundg k3
              case measure => have := HK1.out; have := HK2.out; have := HK3.out; omega
              case rel => exact ⟨(x5_3), (wrap64 (x7_2 + 1)), (x1001_3), (x1002_3), qf, H', ⟨by have := HK1.out; have := HK2.out; have := HK3.out; omega⟩, ⟨by (with_reducible repeat (first | apply Kd.R_alloc | apply Kd.R_drewN | apply Kd.R_drew)); exact HO_5.out⟩, ⟨(z26_0 HI0)⟩, ⟨(z26_2 HK)⟩, ⟨(z26_1 HB)⟩⟩
          ·
           rw [if_neg c40] at H
           have c40b0 := decide_eq_false c40
           clear c40
           have H' := qa H
           clear H
           go_wp2
           go_roundg k2
           case measure => have := HK1.out; have := HK2.out; omega
           case rel => exact ⟨(x5_2), (wrap64 (x6_1 + 1)), (x1001_2), (x1002_2), qf, H', ⟨by have := HK1.out; have := HK2.out; omega⟩, ⟨by (with_reducible repeat (first | apply Kd.R_alloc | apply Kd.R_drewN | apply Kd.R_drew)); exact HO_5.out⟩, ⟨(z26_0 HI0)⟩, ⟨(z26_2 HK)⟩, ⟨(z26_1 HB)⟩⟩
       ·
        rw [if_neg c39] at H
        have c39b0 := decide_eq_false c39
        clear c39
        simp only [Option.some.injEq, Prod.mk.injEq] at H
        obtain ⟨rfl, rfl, rfl⟩ := H
        go_wp2
        go_ret
        exact ⟨_, by first | rfl | (simp [errW_none, errW_some] <;> rfl) | (simp [*, errW_none, errW_some] <;> rfl), by (with_reducible repeat (first | apply Kd.R_alloc | apply Kd.R_drewN | apply Kd.R_drew)); exact HO_5.out, (z26_0 HI0), (z26_1 HB), (z26_2 HK)⟩
    ·
     rw [if_neg c36] at H
     have c36b0 : (t267 == 3) = false := beq_eq_false_iff_ne.mpr c36
     have c36b1 : (t267 != 3) = true := bne_iff_ne.mpr c36
     simp only [Option.some.injEq, Prod.mk.injEq] at H
     obtain ⟨rfl, rfl, rfl⟩ := H
     go_enter Tryz.func26, Tryz.ntmps26
     go_wp2_with (first | ((with_reducible refine gate_callee (f := 61) rfl ?_); refine qg 11 Tryz.func61 #[.pointer (some ⟨g, 0, none⟩), .int .i64 a1] ?_; (with_reducible refine (spec_l1Cur_poly.calls k g s0_0 s0_1 s0_2 a1 t262 t265 t266 w0 _ ?side1 ?side2 A3.out).mono ?_); (case side1 => exact z26_0 HI0); (case side2 => exact z26_1 HB); rintro e w50 ⟨v263, rfl, ho0, hi, hb, hk⟩; refine ⟨_, rfl, ?_⟩; have HO264 := qa (Kd.R_lower ho0 (keep_size (w := w) (g := g) (row := none) (z26_2 HK))); replace HK := qa (KeepBut.trans (z26_2 HK) hk (.inl rfl)); replace HB := qa (hb); replace HI0 := qa (hi); (try clear hb); (try clear hb2); (try clear hk); (try clear hi); (try clear ho0)) | ((with_reducible refine gate_callee (f := 27) rfl ?_); refine qg 13 Tryz.func27 #[.pointer (some ⟨g, 0, none⟩), .int .i64 40] ?_; (with_reducible refine (spec_l1Cur_pick.calls g s0_0 t265 t266 40 t267 t268 t269 w0 _ ?side1 ?side2 A4.out).mono ?_); (case side1 => exact z26_0 HI0); (case side2 => exact z26_1 HB); rintro e w51 ⟨rfl, hi, hb, hk⟩; refine ⟨_, rfl, ?_⟩; replace HO264 := qa (Kd.R_mono (Kd.R_keep (IsS51.apart (show IsS51 w0 _ g s0_0 t265 t266 from (z26_0 HI0)) (zq3 HO264) (by decide)) hk (fun _ h => h.2)) (fun _ h => h.1)); replace HK := qa (KeepBut.trans (z26_2 HK) hk (.inl rfl)); replace HB := qa (hb); replace HI0 := qa (hi); (try clear hb); (try clear hb2); (try clear hk); (try clear hi)))
     go_ret
     exact ⟨_, by first | rfl | (simp [errW_none, errW_some] <;> rfl) | (simp [*, errW_none, errW_some] <;> rfl), by (with_reducible repeat (first | apply Kd.R_alloc | apply Kd.R_drewN | apply Kd.R_drew)); exact HO264.out, (z26_0 HI0), (z26_1 HB), (z26_2 HK)⟩
/-! ### spec_DrawExchangeUnknowns: function 5 -/
-- PROOF
structure spec_DrawExchangeUnknowns.At (w0 w : World) (g : Nat) (l : List Int) (s1 s2 : Int) (A : Option Addr) (c : Nat) (p : List S62) (B : List (Nat × Array Value × Nat)) : Prop where
  st : IsS51 w0 w g l s1 s2
  bel : Below w0.heap.size w0 w
  row : Kd.R k62 62 w w0.heap.size (fun _ => True) (.slice A p.length c) p
  lit : ∀ x ∈ B, x.1 ≠ g ∧ w.heap[x.1]? = some (.cells x.2.1 x.2.2 (0, 0))
theorem spec_DrawExchangeUnknowns.at_new {w0 w w1 : World} {g : Nat} {l : List Int} {s1 s2 : Int} {A : Option Addr} {c : Nat} {p : List S62} {B : List (Nat × Array Value × Nat)} {b : Nat} {cs : Array Value} {t : Nat} (h : spec_DrawExchangeUnknowns.At w0 w g l s1 s2 A c p B) (hg : b = w.heap.size) (hbox : w1.heap[b]? = some (.cells cs t (0, 0))) (hb : Below w.heap.size w w1) : spec_DrawExchangeUnknowns.At w0 w1 g l s1 s2 A c p (B ++ [(b, cs, t)]) := by
  refine ⟨h.st.below hb, below_step h.bel hb, Kd.R_below h.row hb, fun x hx => ?_⟩
  rcases List.mem_append.1 hx with hx | hx
  · obtain ⟨h1, h2⟩ := h.lit x hx
    exact ⟨h1, (hb.block x.1 (blk_lt h2)).trans h2⟩
  · rw [List.mem_singleton.1 hx]
    obtain ⟨_, _, hG, _⟩ := h.st
    exact ⟨by rw [hg]; exact Nat.ne_of_gt (blk_lt hG), hbox⟩
theorem spec_DrawExchangeUnknowns.at_call {w0 w w1 : World} {g : Nat} {l : List Int} {s1 s2 q1 q2 : Int} {A : Option Addr} {c : Nat} {p : List S62} {B : List (Nat × Array Value × Nat)} (h : spec_DrawExchangeUnknowns.At w0 w g l s1 s2 A c p B) (hi : IsS51 w0 w1 g l q1 q2) (hb : Below w0.heap.size w0 w1) (hk : KeepBut w w1 g none) : spec_DrawExchangeUnknowns.At w0 w1 g l q1 q2 A c p B :=
  ⟨hi, hb, Kd.R_mono (Kd.R_keep (IsS51.apart h.st h.row (by decide)) hk (fun _ h => h.2)) (fun _ h => h.1), fun x hx => ⟨(h.lit x hx).1, hk.blk (h.lit x hx).2 (h.lit x hx).1 (by simp)⟩⟩
theorem spec_DrawExchangeUnknowns.at_cell {w0 w : World} {g : Nat} {l : List Int} {s1 s2 : Int} {A : Option Addr} {c : Nat} {p : List S62} {B : List (Nat × Array Value × Nat)} (h : spec_DrawExchangeUnknowns.At w0 w g l s1 s2 A c p B) {b : Nat} {cs : Array Value} {t : Nat} (hm : (b, cs, t) ∈ B) (i : Nat) {v : Value} (e : cs[i]? = some v := by rfl) : w.cell? ⟨b, i, none⟩ = some v := by
  rw [blk_cell (h.lit _ hm).2 i]; exact e
theorem spec_DrawExchangeUnknowns.zbs {P' : Program} {ops : Array Oper} {rest : List Oper} {o : Oper} {a : Act} {Q : Exit → Act → World → Prop} {W : World} {N : Tmp} {cs : Array Value} {t : TypeId} {n : Nat}
    (h : ∀ g, g = W.heap.size → ∀ w1, w1.heap[g]? = some (.cells cs t (0, 0)) → Below W.heap.size W w1 → wpList P' ops Q rest (a.put o.dst (.slice (some ⟨g, 0, none⟩) n n)) w1) (hd : o.dst = some N := by rfl) (hgd : o.guard = none := by rfl)
    (hrun : (execOp a.eval o).run P' W = .ok (.value (.slice (some ⟨W.heap.size, 0, none⟩) n n)) (W.alloc (.cells cs t (0, 0))) := by first | (go_simp; done) | (go_simp; rfl)) : wpList P' ops Q (o :: rest) a W :=
  Kd.event_run hgd hrun (h _ rfl _ (blk_new W _) (below_alloc (Below.refl _ _) _))
theorem spec_DrawExchangeUnknowns.blkC {w : World} {b : Nat} (xs : List Int) (n : Nat) (hn : xs.length = n) (h : w.heap[b]? = some (.cells (xs.map (Value.int .i64)).toArray 3 (0, 0))) (hm : n ≤ 100) : Kd.C (Kd.int .i64) w (some ⟨b, 0, none⟩) xs.length xs := by
  have h1 : w.ownsRow 0 3 1 (.slice (some ⟨b, 0, none⟩) xs.length xs.length) xs.length (encs (Value.int .i64) xs) := by
    refine ⟨by simp [encs], .inr ⟨b, xs.length, _, rfl, Nat.zero_le _, h, Nat.le_refl _, by simp [maxLen]; omega, by simp, by rw [Nat.mul_one]; exact List.take_of_length_le (by simp)⟩⟩
  exact (Kd.R_reads' (Kd.R_of_own (ok := fun _ => True) h1 (fun _ _ => trivial))).2.2
theorem spec_DrawExchangeUnknowns.own {w0 w : World} {g : Nat} {l : List Int} {s1 s2 : Int} {A : Option Addr} {c : Nat} {p : List S62} {B : List (Nat × Array Value × Nat)} (h : spec_DrawExchangeUnknowns.At w0 w g l s1 s2 A c p B) (b n : Nat) (xs : List Int) (hn : xs.length = n) (hs : n ≤ 100) (hm : (b, (xs.map (Value.int .i64)).toArray, 3) ∈ B) :
    Calls Tryz.prog 29 #[.slice (some ⟨b, 0, none⟩) n n] w fun e w' => ∃ v0_ : Value, e = .returned v0_ ∧ Kd.R (Kd.int .i64) 3 w' w.heap.size (fun _ => True) v0_ xs ∧ Below w.heap.size w w' := by
  have hc := spec_DrawExchangeUnknowns.blkC xs n hn (h.lit _ hm).2 hs
  subst hn
  exact spec_l1Own.calls _ _ xs xs w hc (Nat.le_refl _) (by unfold spec_l1Own.f; first | rfl | (simp; omega) | (rw [if_pos (by simp; omega)]; simp))
theorem spec_DrawExchangeUnknowns.own0 (w : World) : Calls Tryz.prog 29 #[.slice none 0 0] w fun e w' => ∃ v0_ : Value, e = .returned v0_ ∧ Kd.R (Kd.int .i64) 3 w' w.heap.size (fun _ => True) v0_ [] ∧ Below w.heap.size w w' :=
  spec_l1Own.calls none 0 [] [] w (Kd.R_reads' (Kd.R_nil (Kd.int .i64) 3 w 0 (fun _ => True))).2.2 (Nat.le_refl _) (by unfold spec_l1Own.f; first | rfl | (simp; done))
set_option maxHeartbeats 8000000 in
set_option maxRecDepth 100000 in
theorem spec_DrawExchangeUnknowns.calls (k : Nat) (A0 : Option Addr) (c0 : Nat) (l0 : List Int) (r1 : List (S62)) (r2 : List Int) (w : World) (hr0 : Kd.C (Kd.int .u8) w A0 l0.length l0) (hc0 : l0.length ≤ c0) (h : spec_DrawExchangeUnknowns.f k l0 = some (r1, r2)) :
    Calls Tryz.prog 5 #[.slice A0 l0.length c0] w fun e w' => ∃ v0_ v1_ : Value, e = .returned (.tuple #[v0_, v1_]) ∧ Kd.R k62 62 w' w.heap.size (fun _ => True) v0_ r1 ∧ Kd.R (Kd.int .i64) 3 w' w.heap.size (fun _ => True) v1_ r2 ∧ Below w.heap.size w w' := by
  have huC := Tryz.underlying51
  have HR0 := qa hr0
  have HB := qa (Below.refl w.heap.size w)
  clear hr0 hc0
  unfold spec_DrawExchangeUnknowns.f at h
  obtain ⟨⟨a1, a2, a3⟩, e1, h⟩ := Option.bind_eq_some_iff.mp h
  obtain ⟨⟨b1, b2, b3⟩, e2, h⟩ := Option.bind_eq_some_iff.mp h
  obtain ⟨⟨c1, c2, c3⟩, e3, h⟩ := Option.bind_eq_some_iff.mp h
  have E1 := qa e1; have E2 := qa e2; have E3 := qa e3
  clear e1 e2 e3
  cases c1
  · rw [if_neg Bool.false_ne_true] at h
    obtain ⟨⟨d1, d2, d3⟩, e4, h⟩ := Option.bind_eq_some_iff.mp h
    have E4 := qa e4
    clear e4
    by_cases hd : 0 ≤ d1 ∧ d1 < 6
    · rw [if_pos hd] at h
      simp only [Option.some.injEq, Prod.mk.injEq] at h
      obtain ⟨rfl, rfl⟩ := h
      have hc : d1 = 0 ∨ d1 = 1 ∨ d1 = 2 ∨ d1 = 3 ∨ d1 = 4 ∨ d1 = 5 := by omega
      clear hd
      rcases hc with rfl | rfl | rfl | rfl | rfl | rfl
      all_goals
        go_enter Tryz.func5, Tryz.ntmps5
        go_wp2_with (first | ((with_reducible refine gate_dst (N := 9) rfl ?_); refine zbe (N := 9) (cs := #[.slice A0 l0.length c0, .int .i64 0, .int .u64 0]) (t := 51) ?_; intro gb hg w9 hbox hb; have BK := qa hbox; have GE := qa (zge (zb0 HB) hg); replace HB := qa (below_step (zb0 HB) hb); clear hb hbox hg; have HI : Aside0 (IsS51 w w9 gb l0 0 0) := ⟨⟨A0, c0, (zq1 BK), GE.out, HR0.out⟩⟩) | (go_at_call 27; (with_reducible refine (spec_l1Cur_pick.calls gb l0 0 0 3 a1 a2 a3 w _ ?s1 ?s2 E1.out).mono ?_); (case s1 => exact HI.out); (case s2 => exact HB.out); rintro e w12 ⟨rfl, hi, hb, hk⟩; replace HB := qa hb; replace HI := qa hi; clear hb hi hk) | (go_at_call 26; (with_reducible refine (spec_l1Cur_anyPoly.calls k gb l0 a2 a3 (wrap64 (1 + a1)) b1 b2 b3 w _ ?s1 ?s2 E2.out).mono ?_); (case s1 => exact HI.out); (case s2 => exact HB.out); rintro e w14 ⟨vp, rfl, ho, hi, hb, hk⟩; obtain ⟨Ap, cp, rfl⟩ := Kd.R_slice ho; have HA := qa (⟨hi, hb, Kd.R_lower ho (below_size HB.out), fun x hx => by cases hx⟩ : spec_DrawExchangeUnknowns.At w w14 gb l0 b2 b3 Ap cp b1 []); clear HB HI hi hb hk ho) | ((with_reducible refine gate_dst (N := 15) rfl ?_); refine spec_DrawExchangeUnknowns.zbs (N := 15) (cs := #[.int .i64 0, .int .i64 1, .int .i64 2]) (t := 3) (n := 3) ?_; intro g15 hg w15 hbox hb; replace HA := qa (spec_DrawExchangeUnknowns.at_new HA.out hg hbox hb); clear hg hbox hb) | ((with_reducible refine gate_dst (N := 16) rfl ?_); refine spec_DrawExchangeUnknowns.zbs (N := 16) (cs := #[.int .i64 1, .int .i64 0, .int .i64 2]) (t := 3) (n := 3) ?_; intro g16 hg w16 hbox hb; replace HA := qa (spec_DrawExchangeUnknowns.at_new HA.out hg hbox hb); clear hg hbox hb) | ((with_reducible refine gate_dst (N := 17) rfl ?_); refine spec_DrawExchangeUnknowns.zbs (N := 17) (cs := #[.int .i64 2, .int .i64 1, .int .i64 0]) (t := 3) (n := 3) ?_; intro g17 hg w17 hbox hb; replace HA := qa (spec_DrawExchangeUnknowns.at_new HA.out hg hbox hb); clear hg hbox hb) | ((with_reducible refine gate_dst (N := 18) rfl ?_); refine spec_DrawExchangeUnknowns.zbs (N := 18) (cs := #[.int .i64 1, .int .i64 2, .int .i64 0]) (t := 3) (n := 3) ?_; intro g18 hg w18 hbox hb; replace HA := qa (spec_DrawExchangeUnknowns.at_new HA.out hg hbox hb); clear hg hbox hb) | ((with_reducible refine gate_dst (N := 19) rfl ?_); refine spec_DrawExchangeUnknowns.zbs (N := 19) (cs := #[.int .i64 2, .int .i64 0, .int .i64 1]) (t := 3) (n := 3) ?_; intro g19 hg w19 hbox hb; replace HA := qa (spec_DrawExchangeUnknowns.at_new HA.out hg hbox hb); clear hg hbox hb) | ((with_reducible refine gate_dst (N := 20) rfl ?_); refine spec_DrawExchangeUnknowns.zbs (N := 20) (cs := #[.int .i64 0, .int .i64 2, .int .i64 1]) (t := 3) (n := 3) ?_; intro g20 hg w20 hbox hb; replace HA := qa (spec_DrawExchangeUnknowns.at_new HA.out hg hbox hb); clear hg hbox hb) | ((with_reducible refine gate_dst (N := 21) rfl ?_); refine spec_DrawExchangeUnknowns.zbs (N := 21) (cs := #[.slice (some ⟨g15, 0, none⟩) 3 3, .slice (some ⟨g16, 0, none⟩) 3 3, .slice (some ⟨g17, 0, none⟩) 3 3, .slice (some ⟨g18, 0, none⟩) 3 3, .slice (some ⟨g19, 0, none⟩) 3 3, .slice (some ⟨g20, 0, none⟩) 3 3]) (t := 25) (n := 6) ?_; intro g21 hg w21 hbox hb; replace HA := qa (spec_DrawExchangeUnknowns.at_new HA.out hg hbox hb); clear hg hbox hb) | (go_at_call 28; (with_reducible refine (spec_l1Cur_one.calls gb l0 b2 b3 16 _ c2 c3 w _ ?s1 ?s2 E3.out).mono ?_); (case s1 => exact HA.out.st); (case s2 => exact HA.out.bel); rintro e w23 ⟨rfl, hi, hb, hk⟩; replace HA := qa (spec_DrawExchangeUnknowns.at_call HA.out hi hb hk); clear hi hb hk) | (go_at_call 27; (with_reducible refine (spec_l1Cur_pick.calls gb l0 c2 c3 6 _ d2 d3 w _ ?s1 ?s2 E4.out).mono ?_); (case s1 => exact HA.out.st); (case s2 => exact HA.out.bel); rintro e w33 ⟨rfl, hi, hb, hk⟩; replace HA := qa (spec_DrawExchangeUnknowns.at_call HA.out hi hb hk); clear hi hb hk; have hc0 : w33.cell? ⟨g21, 0, none⟩ = some (.slice (some ⟨g15, 0, none⟩) 3 3) := spec_DrawExchangeUnknowns.at_cell HA.out (b := g21) (t := 25) (cs := #[.slice (some ⟨g15, 0, none⟩) 3 3, .slice (some ⟨g16, 0, none⟩) 3 3, .slice (some ⟨g17, 0, none⟩) 3 3, .slice (some ⟨g18, 0, none⟩) 3 3, .slice (some ⟨g19, 0, none⟩) 3 3, .slice (some ⟨g20, 0, none⟩) 3 3]) (by simp) 0; have hc1 : w33.cell? ⟨g21, 1, none⟩ = some (.slice (some ⟨g16, 0, none⟩) 3 3) := spec_DrawExchangeUnknowns.at_cell HA.out (b := g21) (t := 25) (cs := #[.slice (some ⟨g15, 0, none⟩) 3 3, .slice (some ⟨g16, 0, none⟩) 3 3, .slice (some ⟨g17, 0, none⟩) 3 3, .slice (some ⟨g18, 0, none⟩) 3 3, .slice (some ⟨g19, 0, none⟩) 3 3, .slice (some ⟨g20, 0, none⟩) 3 3]) (by simp) 1; have hc2 : w33.cell? ⟨g21, 2, none⟩ = some (.slice (some ⟨g17, 0, none⟩) 3 3) := spec_DrawExchangeUnknowns.at_cell HA.out (b := g21) (t := 25) (cs := #[.slice (some ⟨g15, 0, none⟩) 3 3, .slice (some ⟨g16, 0, none⟩) 3 3, .slice (some ⟨g17, 0, none⟩) 3 3, .slice (some ⟨g18, 0, none⟩) 3 3, .slice (some ⟨g19, 0, none⟩) 3 3, .slice (some ⟨g20, 0, none⟩) 3 3]) (by simp) 2; have hc3 : w33.cell? ⟨g21, 3, none⟩ = some (.slice (some ⟨g18, 0, none⟩) 3 3) := spec_DrawExchangeUnknowns.at_cell HA.out (b := g21) (t := 25) (cs := #[.slice (some ⟨g15, 0, none⟩) 3 3, .slice (some ⟨g16, 0, none⟩) 3 3, .slice (some ⟨g17, 0, none⟩) 3 3, .slice (some ⟨g18, 0, none⟩) 3 3, .slice (some ⟨g19, 0, none⟩) 3 3, .slice (some ⟨g20, 0, none⟩) 3 3]) (by simp) 3; have hc4 : w33.cell? ⟨g21, 4, none⟩ = some (.slice (some ⟨g19, 0, none⟩) 3 3) := spec_DrawExchangeUnknowns.at_cell HA.out (b := g21) (t := 25) (cs := #[.slice (some ⟨g15, 0, none⟩) 3 3, .slice (some ⟨g16, 0, none⟩) 3 3, .slice (some ⟨g17, 0, none⟩) 3 3, .slice (some ⟨g18, 0, none⟩) 3 3, .slice (some ⟨g19, 0, none⟩) 3 3, .slice (some ⟨g20, 0, none⟩) 3 3]) (by simp) 4; have hc5 : w33.cell? ⟨g21, 5, none⟩ = some (.slice (some ⟨g20, 0, none⟩) 3 3) := spec_DrawExchangeUnknowns.at_cell HA.out (b := g21) (t := 25) (cs := #[.slice (some ⟨g15, 0, none⟩) 3 3, .slice (some ⟨g16, 0, none⟩) 3 3, .slice (some ⟨g17, 0, none⟩) 3 3, .slice (some ⟨g18, 0, none⟩) 3 3, .slice (some ⟨g19, 0, none⟩) 3 3, .slice (some ⟨g20, 0, none⟩) 3 3]) (by simp) 5) | (go_at_call 29; (with_reducible refine (spec_DrawExchangeUnknowns.own HA.out g15 3 [0, 1, 2] rfl (by decide) (by simp)).mono ?_); rintro e w36 ⟨vo, rfl, ho, hb⟩; have HO := qa (Kd.R_lower ho (below_size HA.out.bel)); have HRW := qa (Kd.R_new' ho (Kd.R_lt HA.out.row)); have HOLD := qa (Kd.R_elder' HA.out.row (Kd.R_base ho) hb); have HB := qa (below_step HA.out.bel hb); clear hb ho) | (go_at_call 29; (with_reducible refine (spec_DrawExchangeUnknowns.own HA.out g16 3 [1, 0, 2] rfl (by decide) (by simp)).mono ?_); rintro e w36 ⟨vo, rfl, ho, hb⟩; have HO := qa (Kd.R_lower ho (below_size HA.out.bel)); have HRW := qa (Kd.R_new' ho (Kd.R_lt HA.out.row)); have HOLD := qa (Kd.R_elder' HA.out.row (Kd.R_base ho) hb); have HB := qa (below_step HA.out.bel hb); clear hb ho) | (go_at_call 29; (with_reducible refine (spec_DrawExchangeUnknowns.own HA.out g17 3 [2, 1, 0] rfl (by decide) (by simp)).mono ?_); rintro e w36 ⟨vo, rfl, ho, hb⟩; have HO := qa (Kd.R_lower ho (below_size HA.out.bel)); have HRW := qa (Kd.R_new' ho (Kd.R_lt HA.out.row)); have HOLD := qa (Kd.R_elder' HA.out.row (Kd.R_base ho) hb); have HB := qa (below_step HA.out.bel hb); clear hb ho) | (go_at_call 29; (with_reducible refine (spec_DrawExchangeUnknowns.own HA.out g18 3 [1, 2, 0] rfl (by decide) (by simp)).mono ?_); rintro e w36 ⟨vo, rfl, ho, hb⟩; have HO := qa (Kd.R_lower ho (below_size HA.out.bel)); have HRW := qa (Kd.R_new' ho (Kd.R_lt HA.out.row)); have HOLD := qa (Kd.R_elder' HA.out.row (Kd.R_base ho) hb); have HB := qa (below_step HA.out.bel hb); clear hb ho) | (go_at_call 29; (with_reducible refine (spec_DrawExchangeUnknowns.own HA.out g19 3 [2, 0, 1] rfl (by decide) (by simp)).mono ?_); rintro e w36 ⟨vo, rfl, ho, hb⟩; have HO := qa (Kd.R_lower ho (below_size HA.out.bel)); have HRW := qa (Kd.R_new' ho (Kd.R_lt HA.out.row)); have HOLD := qa (Kd.R_elder' HA.out.row (Kd.R_base ho) hb); have HB := qa (below_step HA.out.bel hb); clear hb ho) | (go_at_call 29; (with_reducible refine (spec_DrawExchangeUnknowns.own HA.out g20 3 [0, 2, 1] rfl (by decide) (by simp)).mono ?_); rintro e w36 ⟨vo, rfl, ho, hb⟩; have HO := qa (Kd.R_lower ho (below_size HA.out.bel)); have HRW := qa (Kd.R_new' ho (Kd.R_lt HA.out.row)); have HOLD := qa (Kd.R_elder' HA.out.row (Kd.R_base ho) hb); have HB := qa (below_step HA.out.bel hb); clear hb ho))
        go_ret2
        exact ⟨_, _, by first | rfl | (simp; done), Kd.R_mono HOLD.out (fun _ _ => trivial), HO.out, HB.out⟩
    · rw [if_neg hd] at h; cases h
  · rw [if_pos rfl] at h
    obtain ⟨⟨d1, d2, d3⟩, e4, h⟩ := Option.bind_eq_some_iff.mp h
    have E4 := qa e4
    clear e4
    by_cases hd : 0 ≤ d1 ∧ d1 < 4
    · rw [if_pos hd] at h
      simp only [Option.some.injEq, Prod.mk.injEq] at h
      obtain ⟨rfl, rfl⟩ := h
      have hc : d1 = 0 ∨ d1 = 1 ∨ d1 = 2 ∨ d1 = 3 := by omega
      clear hd
      rcases hc with rfl | rfl | rfl | rfl
      all_goals
        go_enter Tryz.func5, Tryz.ntmps5
        go_wp2_with (first | ((with_reducible refine gate_dst (N := 9) rfl ?_); refine zbe (N := 9) (cs := #[.slice A0 l0.length c0, .int .i64 0, .int .u64 0]) (t := 51) ?_; intro gb hg w9 hbox hb; have BK := qa hbox; have GE := qa (zge (zb0 HB) hg); replace HB := qa (below_step (zb0 HB) hb); clear hb hbox hg; have HI : Aside0 (IsS51 w w9 gb l0 0 0) := ⟨⟨A0, c0, (zq1 BK), GE.out, HR0.out⟩⟩) | (go_at_call 27; (with_reducible refine (spec_l1Cur_pick.calls gb l0 0 0 3 a1 a2 a3 w _ ?s1 ?s2 E1.out).mono ?_); (case s1 => exact HI.out); (case s2 => exact HB.out); rintro e w12 ⟨rfl, hi, hb, hk⟩; replace HB := qa hb; replace HI := qa hi; clear hb hi hk) | (go_at_call 26; (with_reducible refine (spec_l1Cur_anyPoly.calls k gb l0 a2 a3 (wrap64 (1 + a1)) b1 b2 b3 w _ ?s1 ?s2 E2.out).mono ?_); (case s1 => exact HI.out); (case s2 => exact HB.out); rintro e w14 ⟨vp, rfl, ho, hi, hb, hk⟩; obtain ⟨Ap, cp, rfl⟩ := Kd.R_slice ho; have HA := qa (⟨hi, hb, Kd.R_lower ho (below_size HB.out), fun x hx => by cases hx⟩ : spec_DrawExchangeUnknowns.At w w14 gb l0 b2 b3 Ap cp b1 []); clear HB HI hi hb hk ho) | ((with_reducible refine gate_dst (N := 15) rfl ?_); refine spec_DrawExchangeUnknowns.zbs (N := 15) (cs := #[.int .i64 0, .int .i64 1, .int .i64 2]) (t := 3) (n := 3) ?_; intro g15 hg w15 hbox hb; replace HA := qa (spec_DrawExchangeUnknowns.at_new HA.out hg hbox hb); clear hg hbox hb) | ((with_reducible refine gate_dst (N := 16) rfl ?_); refine spec_DrawExchangeUnknowns.zbs (N := 16) (cs := #[.int .i64 1, .int .i64 0, .int .i64 2]) (t := 3) (n := 3) ?_; intro g16 hg w16 hbox hb; replace HA := qa (spec_DrawExchangeUnknowns.at_new HA.out hg hbox hb); clear hg hbox hb) | ((with_reducible refine gate_dst (N := 17) rfl ?_); refine spec_DrawExchangeUnknowns.zbs (N := 17) (cs := #[.int .i64 2, .int .i64 1, .int .i64 0]) (t := 3) (n := 3) ?_; intro g17 hg w17 hbox hb; replace HA := qa (spec_DrawExchangeUnknowns.at_new HA.out hg hbox hb); clear hg hbox hb) | ((with_reducible refine gate_dst (N := 18) rfl ?_); refine spec_DrawExchangeUnknowns.zbs (N := 18) (cs := #[.int .i64 1, .int .i64 2, .int .i64 0]) (t := 3) (n := 3) ?_; intro g18 hg w18 hbox hb; replace HA := qa (spec_DrawExchangeUnknowns.at_new HA.out hg hbox hb); clear hg hbox hb) | ((with_reducible refine gate_dst (N := 19) rfl ?_); refine spec_DrawExchangeUnknowns.zbs (N := 19) (cs := #[.int .i64 2, .int .i64 0, .int .i64 1]) (t := 3) (n := 3) ?_; intro g19 hg w19 hbox hb; replace HA := qa (spec_DrawExchangeUnknowns.at_new HA.out hg hbox hb); clear hg hbox hb) | ((with_reducible refine gate_dst (N := 20) rfl ?_); refine spec_DrawExchangeUnknowns.zbs (N := 20) (cs := #[.int .i64 0, .int .i64 2, .int .i64 1]) (t := 3) (n := 3) ?_; intro g20 hg w20 hbox hb; replace HA := qa (spec_DrawExchangeUnknowns.at_new HA.out hg hbox hb); clear hg hbox hb) | ((with_reducible refine gate_dst (N := 21) rfl ?_); refine spec_DrawExchangeUnknowns.zbs (N := 21) (cs := #[.slice (some ⟨g15, 0, none⟩) 3 3, .slice (some ⟨g16, 0, none⟩) 3 3, .slice (some ⟨g17, 0, none⟩) 3 3, .slice (some ⟨g18, 0, none⟩) 3 3, .slice (some ⟨g19, 0, none⟩) 3 3, .slice (some ⟨g20, 0, none⟩) 3 3]) (t := 25) (n := 6) ?_; intro g21 hg w21 hbox hb; replace HA := qa (spec_DrawExchangeUnknowns.at_new HA.out hg hbox hb); clear hg hbox hb) | (go_at_call 28; (with_reducible refine (spec_l1Cur_one.calls gb l0 b2 b3 16 _ c2 c3 w _ ?s1 ?s2 E3.out).mono ?_); (case s1 => exact HA.out.st); (case s2 => exact HA.out.bel); rintro e w23 ⟨rfl, hi, hb, hk⟩; replace HA := qa (spec_DrawExchangeUnknowns.at_call HA.out hi hb hk); clear hi hb hk) | ((with_reducible refine gate_dst (N := 24) rfl ?_); refine spec_DrawExchangeUnknowns.zbs (N := 24) (cs := #[.int .i64 0, .int .i64 1]) (t := 3) (n := 2) ?_; intro g24 hg w24 hbox hb; replace HA := qa (spec_DrawExchangeUnknowns.at_new HA.out hg hbox hb); clear hg hbox hb) | ((with_reducible refine gate_dst (N := 25) rfl ?_); refine spec_DrawExchangeUnknowns.zbs (N := 25) (cs := #[.int .i64 0, .int .i64 0, .int .i64 2]) (t := 3) (n := 3) ?_; intro g25 hg w25 hbox hb; replace HA := qa (spec_DrawExchangeUnknowns.at_new HA.out hg hbox hb); clear hg hbox hb) | ((with_reducible refine gate_dst (N := 26) rfl ?_); refine spec_DrawExchangeUnknowns.zbs (N := 26) (cs := #[.int .i64 0, .int .i64 1, .int .i64 3]) (t := 3) (n := 3) ?_; intro g26 hg w26 hbox hb; replace HA := qa (spec_DrawExchangeUnknowns.at_new HA.out hg hbox hb); clear hg hbox hb) | ((with_reducible refine gate_dst (N := 27) rfl ?_); refine spec_DrawExchangeUnknowns.zbs (N := 27) (cs := #[.slice (some ⟨g24, 0, none⟩) 2 2, .slice (some ⟨g25, 0, none⟩) 3 3, .slice (some ⟨g26, 0, none⟩) 3 3, .slice none 0 0]) (t := 25) (n := 4) ?_; intro g27 hg w27 hbox hb; replace HA := qa (spec_DrawExchangeUnknowns.at_new HA.out hg hbox hb); clear hg hbox hb) | (go_at_call 27; (with_reducible refine (spec_l1Cur_pick.calls gb l0 c2 c3 4 _ d2 d3 w _ ?s1 ?s2 E4.out).mono ?_); (case s1 => exact HA.out.st); (case s2 => exact HA.out.bel); rintro e w33 ⟨rfl, hi, hb, hk⟩; replace HA := qa (spec_DrawExchangeUnknowns.at_call HA.out hi hb hk); clear hi hb hk; have hc0 : w33.cell? ⟨g27, 0, none⟩ = some (.slice (some ⟨g24, 0, none⟩) 2 2) := spec_DrawExchangeUnknowns.at_cell HA.out (b := g27) (t := 25) (cs := #[.slice (some ⟨g24, 0, none⟩) 2 2, .slice (some ⟨g25, 0, none⟩) 3 3, .slice (some ⟨g26, 0, none⟩) 3 3, .slice none 0 0]) (by simp) 0; have hc1 : w33.cell? ⟨g27, 1, none⟩ = some (.slice (some ⟨g25, 0, none⟩) 3 3) := spec_DrawExchangeUnknowns.at_cell HA.out (b := g27) (t := 25) (cs := #[.slice (some ⟨g24, 0, none⟩) 2 2, .slice (some ⟨g25, 0, none⟩) 3 3, .slice (some ⟨g26, 0, none⟩) 3 3, .slice none 0 0]) (by simp) 1; have hc2 : w33.cell? ⟨g27, 2, none⟩ = some (.slice (some ⟨g26, 0, none⟩) 3 3) := spec_DrawExchangeUnknowns.at_cell HA.out (b := g27) (t := 25) (cs := #[.slice (some ⟨g24, 0, none⟩) 2 2, .slice (some ⟨g25, 0, none⟩) 3 3, .slice (some ⟨g26, 0, none⟩) 3 3, .slice none 0 0]) (by simp) 2; have hc3 : w33.cell? ⟨g27, 3, none⟩ = some (.slice none 0 0) := spec_DrawExchangeUnknowns.at_cell HA.out (b := g27) (t := 25) (cs := #[.slice (some ⟨g24, 0, none⟩) 2 2, .slice (some ⟨g25, 0, none⟩) 3 3, .slice (some ⟨g26, 0, none⟩) 3 3, .slice none 0 0]) (by simp) 3) | (go_at_call 29; (with_reducible refine (spec_DrawExchangeUnknowns.own HA.out g24 2 [0, 1] rfl (by decide) (by simp)).mono ?_); rintro e w36 ⟨vo, rfl, ho, hb⟩; have HO := qa (Kd.R_lower ho (below_size HA.out.bel)); have HRW := qa (Kd.R_new' ho (Kd.R_lt HA.out.row)); have HOLD := qa (Kd.R_elder' HA.out.row (Kd.R_base ho) hb); have HB := qa (below_step HA.out.bel hb); clear hb ho) | (go_at_call 29; (with_reducible refine (spec_DrawExchangeUnknowns.own HA.out g25 3 [0, 0, 2] rfl (by decide) (by simp)).mono ?_); rintro e w36 ⟨vo, rfl, ho, hb⟩; have HO := qa (Kd.R_lower ho (below_size HA.out.bel)); have HRW := qa (Kd.R_new' ho (Kd.R_lt HA.out.row)); have HOLD := qa (Kd.R_elder' HA.out.row (Kd.R_base ho) hb); have HB := qa (below_step HA.out.bel hb); clear hb ho) | (go_at_call 29; (with_reducible refine (spec_DrawExchangeUnknowns.own HA.out g26 3 [0, 1, 3] rfl (by decide) (by simp)).mono ?_); rintro e w36 ⟨vo, rfl, ho, hb⟩; have HO := qa (Kd.R_lower ho (below_size HA.out.bel)); have HRW := qa (Kd.R_new' ho (Kd.R_lt HA.out.row)); have HOLD := qa (Kd.R_elder' HA.out.row (Kd.R_base ho) hb); have HB := qa (below_step HA.out.bel hb); clear hb ho) | (go_at_call 29; (with_reducible refine (spec_DrawExchangeUnknowns.own0 w33).mono ?_); rintro e w36 ⟨vo, rfl, ho, hb⟩; have HO := qa (Kd.R_lower ho (below_size HA.out.bel)); have HRW := qa (Kd.R_new' ho (Kd.R_lt HA.out.row)); have HOLD := qa (Kd.R_elder' HA.out.row (Kd.R_base ho) hb); have HB := qa (below_step HA.out.bel hb); clear hb ho))
        go_ret2
        exact ⟨_, _, by first | rfl | (simp; done), Kd.R_mono HOLD.out (fun _ _ => trivial), HO.out, HB.out⟩
    · rw [if_neg hd] at h; cases h
/-! ### impl_isPoly: function 30 -/
def impl_isPoly.T4 : Bool × List (List Nat × List Nat) := (true, [([], []), ([0], [0]), ([1], [1]), ([2], [2]), ([3], [3]), ([4, 3], [3, 4]), ([5, 3, 3], [3, 5]), ([6, 3], [3, 6]), ([3, 7], [3, 7]), ([8, 6], [8]), ([9], [9]), ([10, 9, 9], [9, 10]), ([11, 9], [9, 11]), ([9, 12], [9, 12]), ([13, 11], [13]), ([14], [14]), ([15, 14], [14, 15]), ([16, 14, 14], [14, 16]), ([17], [17]), ([17], [17]), ([19, 17], [17, 19]), ([18, 20, 17], [17, 18, 20]), ([21, 17], [17, 21]), ([17], [17]), ([22, 23, 17, 17], [17, 22, 23]), ([24, 17], [17, 24]), ([17, 25, 14], [14, 17, 25]), ([14, 26], [14, 26])])
def impl_isPoly.B4 : List Nat := [0, 1, 3, 7, 15, 31, 63, 127, 255, 511, 1023, 2047, 4095, 8191, 16383, 32767, 65535, 131071, 262143, 262143, 786431, 2097151, 4194303, 262143, 16777215, 33554431, 67108863, 134217727]
theorem impl_isPoly.tab4 : rtab .any (opsOf Tryz.f30 4) = impl_isPoly.T4 := by kernel_rfl
theorem impl_isPoly.bits4 : waitsOk impl_isPoly.T4.2 impl_isPoly.B4 = true := by kernel_rfl
set_option maxHeartbeats 8000000 in
set_option maxRecDepth 100000 in
theorem impl_isPoly.calls (k : Nat) (A0 : Option Addr) (c0 : Nat) (l0 : List (S62)) (r : Bool) (w : World) (hr0 : Kd.C k62 w A0 l0.length l0) (hc0 : l0.length ≤ c0) (h : impl_isPoly.f k l0 = some r) :
  Calls Tryz.prog 30 #[.slice A0 l0.length c0] w fun e w' => e = .returned (.bool r) ∧ Below w.heap.size w w' := by
 have hu62 := Tryz.underlying62
 have HR0 := qa hr0
 have HC0 := qa hc0
 clear hr0 hc0
 have HB := qa (Below.refl w.heap.size w)
 have H : (impl_isPoly.l0 k l0 l0 (l0.length : Int) 0) = some r := h
 clear h
 have H' := qa H
 clear H
 go_enter Tryz.func30, Tryz.ntmps30
 go_wp2
 go_loopg [7] k (fun kq v7 w' => ∃ (x7_1 : Int), v7 = .int .i64 x7_1 ∧ Aside0 (impl_isPoly.l0 kq l0 l0 (l0.length : Int) x7_1 = some r) ∧ Aside0 (kq ≤ k) ∧ Aside0 (Below w.heap.size w w'))
 case atStart => exact ⟨(0), qf, H', ⟨Nat.le_refl _⟩, ⟨(zb0 HB)⟩⟩
 case round =>
  clear H'
  obtain ⟨x7_1, rfl, HA, HK1, HB⟩ := hrel
  cases gk with
  | zero => exact absurd HA.out (by simp [impl_isPoly.l0])
  | succ k1 =>
   have H := HA.out
   clear HA
   simp only [impl_isPoly.l0] at H
   by_cases c2 : x7_1 < (l0.length : Int)
   ·
    rw [if_pos c2] at H
    have c2b0 := decide_eq_true c2
    clear c2
    by_cases c3 : 0 ≤ x7_1
    ·
     rw [if_pos c3] at H
     have c3b0 := decide_eq_true c3
     clear c3
     by_cases c4 : x7_1 < (l0.length : Int)
     ·
      rw [if_pos c4] at H
      have c4b0 := decide_eq_true c4
      clear c4
      by_cases c5 : ((rd_T62 l0 x7_1).f0) = 0
      ·
       rw [if_pos c5] at H
       have c5b0 : (((rd_T62 l0 x7_1).f0) == 0) = true := beq_iff_eq.mpr c5
       have c5b1 : (((rd_T62 l0 x7_1).f0) != 0) = false := bne_eq_false_iff_eq.mpr c5
       clear c5
       obtain rfl := Option.some.inj H
       have p327 : 0 ≤ (x7_1 : Int) := qd
       have q327 : x7_1 < (l0.length : Int) := qd
       obtain ⟨ad327, e327, hx327_0, hx327_1, hx327_2, hx327_3⟩ := at_T62 HR0.out x7_1 p327 q327
       cases e327
       replace hx327_0 := qb HB hx327_0
       replace hx327_1 := qb HB hx327_1
       replace hx327_2 := qb HB hx327_2
       replace hx327_3 := qb HB hx327_3
       replace p327 := eq_true p327
       replace q327 := eq_true q327
       try go_wp2_with (first | ((with_reducible refine gate_dst (N := 4) rfl ?_); refine zbe (N := 4) (cs := #[.int .i64 0, .int .i64 0, .int .i64 0, .int .i64 0]) (t := 62) ?_; intro gb328 hg w6 hbox hb; have BK328 := qa (hbox); have GW328 := qa (zge (zb0 HB) hg); have GE328 := GW328; replace HB := qa (below_step (zb0 HB) hb); clear hb hbox hg; obtain ⟨hcz7_0, hcz7_1, hcz7_2, hcz7_3⟩ := qc4 BK328; obtain ⟨hfz7_0, hfz7_1, hfz7_2, hfz7_3⟩ := qz4 BK328))
       have n0_ : Aside0 (((((w6.setCell ⟨gb328, 0, none⟩ (.int .i64 ((rd_T62 l0 x7_1).f0))).setCell ⟨gb328, 1, none⟩ (.int .i64 ((rd_T62 l0 x7_1).f1))).setCell ⟨gb328, 2, none⟩ (.int .i64 ((rd_T62 l0 x7_1).f2))).setCell ⟨gb328, 3, none⟩ (.int .i64 ((rd_T62 l0 x7_1).f3))).heap[gb328]? = some (.cells #[.int .i64 ((rd_T62 l0 x7_1).f0), .int .i64 ((rd_T62 l0 x7_1).f1), .int .i64 ((rd_T62 l0 x7_1).f2), .int .i64 ((rd_T62 l0 x7_1).f3)] 62 (0, 0))) := ⟨qs BK328⟩
       have n1_ : Aside0 (Below w.heap.size w ((((w6.setCell ⟨gb328, 0, none⟩ (.int .i64 ((rd_T62 l0 x7_1).f0))).setCell ⟨gb328, 1, none⟩ (.int .i64 ((rd_T62 l0 x7_1).f1))).setCell ⟨gb328, 2, none⟩ (.int .i64 ((rd_T62 l0 x7_1).f2))).setCell ⟨gb328, 3, none⟩ (.int .i64 ((rd_T62 l0 x7_1).f3)))) := ⟨(zb1 HB)⟩
       (try clear BK328)
       (try clear HB)
       generalize ((((w6.setCell ⟨gb328, 0, none⟩ (.int .i64 ((rd_T62 l0 x7_1).f0))).setCell ⟨gb328, 1, none⟩ (.int .i64 ((rd_T62 l0 x7_1).f1))).setCell ⟨gb328, 2, none⟩ (.int .i64 ((rd_T62 l0 x7_1).f2))).setCell ⟨gb328, 3, none⟩ (.int .i64 ((rd_T62 l0 x7_1).f3))) = w8 at n0_ n1_ ⊢
       have BK328 := n0_; have HB := n1_
       clear n0_ n1_
       replace BK328 := qa (blk_drew BK328.out); replace HB := qa (below_drew1 HB.out)
       refine start_ (n := 28) (S := fun w' => w'.cell? ⟨gb328, 0, none⟩ = some (.int .i64 ((rd_T62 l0 x7_1).f0)) ∧ w'.cell? ⟨gb328, 1, none⟩ = some (.int .i64 ((rd_T62 l0 x7_1).f1)) ∧ w'.cell? ⟨gb328, 2, none⟩ = some (.int .i64 ((rd_T62 l0 x7_1).f2)) ∧ w'.cell? ⟨gb328, 3, none⟩ = some (.int .i64 ((rd_T62 l0 x7_1).f3))) (ds := []) (bn 28 0) (by kernel_rfl) rfl rfl ⟨zc BK328 0, zc BK328 1, zc BK328 2, zc BK328 3⟩ (fun hHeld => ?_); refine with_tabW impl_isPoly.tab4 impl_isPoly.bits4 (fun HT_ HW_ => ?_)
       generalize w8.drew = w9 at BK328 HB hHeld ⊢
       refine qp 0 12 28 1 HT_ ?_
       refine qk 1 13 28 3 HT_ HW_ hHeld ?_
       refine qp 2 14 28 7 HT_ ?_
       refine qp 3 15 28 15 HT_ ?_
       refine qu 4 16 28 31 HT_ ?_
       refine qu 5 17 28 63 HT_ ?_
       refine qu 6 18 28 127 HT_ ?_
       refine qu 7 19 28 255 HT_ ?_
       refine qp 8 20 28 511 HT_ ?_
       refine qp 9 21 28 1023 HT_ ?_
       refine qu 10 22 28 2047 HT_ ?_
       refine qu 11 23 28 4095 HT_ ?_
       refine qu 12 24 28 8191 HT_ ?_
       refine qp 13 25 28 16383 HT_ ?_
       refine qp 14 26 28 32767 HT_ ?_
       refine qu 15 27 28 65535 HT_ ?_
       refine qu 16 28 28 131071 HT_ ?_
       refine qu 17 29 28 262143 HT_ ?_
       refine qu 18 30 28 524287 HT_ ?_
       refine qu 19 31 28 1048575 HT_ ?_
       refine qu 20 32 28 2097151 HT_ ?_
       refine qu 21 33 28 4194303 HT_ ?_
       refine qu 22 34 28 8388607 HT_ ?_
       refine qu 23 35 28 16777215 HT_ ?_
       refine qu 24 36 28 33554431 HT_ ?_
       refine qu 25 37 28 67108863 HT_ ?_
       refine qu 26 38 28 134217727 HT_ ?_
       refine qp 27 39 28 268435455 HT_ ?_
       refine done_ (done_of HT_.out (by kernel_rfl)) ?_
       try go_wp2
       go_ret
       exact ⟨by first | rfl | (simp [errW_none, errW_some] <;> rfl) | (simp [*, errW_none, errW_some] <;> rfl), (zb1 HB)⟩
      ·
       rw [if_neg c5] at H
       have c5b0 : (((rd_T62 l0 x7_1).f0) == 0) = false := beq_eq_false_iff_ne.mpr c5
       have c5b1 : (((rd_T62 l0 x7_1).f0) != 0) = true := bne_iff_ne.mpr c5
       replace H := qo H
       obtain ⟨t329, A10, H⟩ := H
       replace H : (if t329 = true then ((impl_hasDegree.f ((rd_T62 l0 x7_1).f0) ((rd_T62 l0 x7_1).f1) ((rd_T62 l0 x7_1).f2) ((rd_T62 l0 x7_1).f3)).bind fun t330 => (if t330 = true then (if x7_1 > 0 then (if 0 ≤ (wrap64 (x7_1 - 1)) then (if (wrap64 (x7_1 - 1)) < (l0.length : Int) then ((impl_compareTerms.f k1 ((rd_T62 l0 (wrap64 (x7_1 - 1))).f0) ((rd_T62 l0 (wrap64 (x7_1 - 1))).f1) ((rd_T62 l0 (wrap64 (x7_1 - 1))).f2) ((rd_T62 l0 (wrap64 (x7_1 - 1))).f3) ((rd_T62 l0 x7_1).f0) ((rd_T62 l0 x7_1).f1) ((rd_T62 l0 x7_1).f2) ((rd_T62 l0 x7_1).f3)).bind fun t332 => (if t332 ≥ 0 then (some false) else (impl_isPoly.l0 k1 l0 l0 (l0.length : Int) (wrap64 (x7_1 + 1))))) else (none)) else (none)) else (impl_isPoly.l0 k1 l0 l0 (l0.length : Int) (wrap64 (x7_1 + 1)))) else (some false))) else (some false)) = some r := H
       by_cases c11 : t329 = true
       ·
        subst c11
        have H1 : ((impl_hasDegree.f ((rd_T62 l0 x7_1).f0) ((rd_T62 l0 x7_1).f1) ((rd_T62 l0 x7_1).f2) ((rd_T62 l0 x7_1).f3)).bind fun t330 => (if t330 = true then (if x7_1 > 0 then (if 0 ≤ (wrap64 (x7_1 - 1)) then (if (wrap64 (x7_1 - 1)) < (l0.length : Int) then ((impl_compareTerms.f k1 ((rd_T62 l0 (wrap64 (x7_1 - 1))).f0) ((rd_T62 l0 (wrap64 (x7_1 - 1))).f1) ((rd_T62 l0 (wrap64 (x7_1 - 1))).f2) ((rd_T62 l0 (wrap64 (x7_1 - 1))).f3) ((rd_T62 l0 x7_1).f0) ((rd_T62 l0 x7_1).f1) ((rd_T62 l0 x7_1).f2) ((rd_T62 l0 x7_1).f3)).bind fun t332 => (if t332 ≥ 0 then (some false) else (impl_isPoly.l0 k1 l0 l0 (l0.length : Int) (wrap64 (x7_1 + 1))))) else (none)) else (none)) else (impl_isPoly.l0 k1 l0 l0 (l0.length : Int) (wrap64 (x7_1 + 1)))) else (some false))) = some r := by rw [if_pos rfl] at H; exact H
        clear H
        have H := H1
        clear H1
        replace H := qo H
        obtain ⟨t330, A12, H⟩ := H
        replace H : (if t330 = true then (if x7_1 > 0 then (if 0 ≤ (wrap64 (x7_1 - 1)) then (if (wrap64 (x7_1 - 1)) < (l0.length : Int) then ((impl_compareTerms.f k1 ((rd_T62 l0 (wrap64 (x7_1 - 1))).f0) ((rd_T62 l0 (wrap64 (x7_1 - 1))).f1) ((rd_T62 l0 (wrap64 (x7_1 - 1))).f2) ((rd_T62 l0 (wrap64 (x7_1 - 1))).f3) ((rd_T62 l0 x7_1).f0) ((rd_T62 l0 x7_1).f1) ((rd_T62 l0 x7_1).f2) ((rd_T62 l0 x7_1).f3)).bind fun t332 => (if t332 ≥ 0 then (some false) else (impl_isPoly.l0 k1 l0 l0 (l0.length : Int) (wrap64 (x7_1 + 1))))) else (none)) else (none)) else (impl_isPoly.l0 k1 l0 l0 (l0.length : Int) (wrap64 (x7_1 + 1)))) else (some false)) = some r := H
        by_cases c13 : t330 = true
        ·
         subst c13
         have H1 : (if x7_1 > 0 then (if 0 ≤ (wrap64 (x7_1 - 1)) then (if (wrap64 (x7_1 - 1)) < (l0.length : Int) then ((impl_compareTerms.f k1 ((rd_T62 l0 (wrap64 (x7_1 - 1))).f0) ((rd_T62 l0 (wrap64 (x7_1 - 1))).f1) ((rd_T62 l0 (wrap64 (x7_1 - 1))).f2) ((rd_T62 l0 (wrap64 (x7_1 - 1))).f3) ((rd_T62 l0 x7_1).f0) ((rd_T62 l0 x7_1).f1) ((rd_T62 l0 x7_1).f2) ((rd_T62 l0 x7_1).f3)).bind fun t332 => (if t332 ≥ 0 then (some false) else (impl_isPoly.l0 k1 l0 l0 (l0.length : Int) (wrap64 (x7_1 + 1))))) else (none)) else (none)) else (impl_isPoly.l0 k1 l0 l0 (l0.length : Int) (wrap64 (x7_1 + 1)))) = some r := by rw [if_pos rfl] at H; exact H
         clear H
         have H := H1
         clear H1
         by_cases c14 : x7_1 > 0
         ·
          rw [if_pos c14] at H
          have c14b0 := decide_eq_true c14
          clear c14
          obtain ⟨ji15, hji15⟩ : ∃ j_ : Int, (wrap64 (x7_1 - 1)) = j_ := ⟨_, rfl⟩
          replace H : (if 0 ≤ (ji15) then (if (ji15) < (l0.length : Int) then ((impl_compareTerms.f k1 ((rd_T62 l0 (ji15)).f0) ((rd_T62 l0 (ji15)).f1) ((rd_T62 l0 (ji15)).f2) ((rd_T62 l0 (ji15)).f3) ((rd_T62 l0 x7_1).f0) ((rd_T62 l0 x7_1).f1) ((rd_T62 l0 x7_1).f2) ((rd_T62 l0 x7_1).f3)).bind fun t332 => (if t332 ≥ 0 then (some false) else (impl_isPoly.l0 k1 l0 l0 (l0.length : Int) (wrap64 (x7_1 + 1))))) else (none)) else (none)) = some r := by first | (rw [hji15] at H; exact H) | (simp only [hji15] at H ⊢; exact H)
          (try rw [hji15] at A10)
          (try rw [hji15] at A12)
          have hji15w : (IntKind.i64.wrap (x7_1 - 1)) = ji15 := (i64_w _).trans hji15
          by_cases c16 : 0 ≤ (ji15)
          ·
           rw [if_pos c16] at H
           have c16b0 := decide_eq_true c16
           clear c16
           by_cases c17 : (ji15) < (l0.length : Int)
           ·
            rw [if_pos c17] at H
            have c17b0 := decide_eq_true c17
            clear c17
            replace H := qo H
            obtain ⟨t332, A18, H⟩ := H
            replace H : (if t332 ≥ 0 then (some false) else (impl_isPoly.l0 k1 l0 l0 (l0.length : Int) (wrap64 (x7_1 + 1)))) = some r := H
            by_cases c19 : t332 ≥ 0
            ·
             rw [if_pos c19] at H
             have c19b0 := decide_eq_true c19
             clear c19
             obtain rfl := Option.some.inj H
             have p327 : 0 ≤ (x7_1 : Int) := qd
             have q327 : x7_1 < (l0.length : Int) := qd
             obtain ⟨ad327, e327, hx327_0, hx327_1, hx327_2, hx327_3⟩ := at_T62 HR0.out x7_1 p327 q327
             cases e327
             replace hx327_0 := qb HB hx327_0
             replace hx327_1 := qb HB hx327_1
             replace hx327_2 := qb HB hx327_2
             replace hx327_3 := qb HB hx327_3
             replace p327 := eq_true p327
             replace q327 := eq_true q327
             try go_wp2_with (first | ((with_reducible refine gate_dst (N := 4) rfl ?_); refine zbe (N := 4) (cs := #[.int .i64 0, .int .i64 0, .int .i64 0, .int .i64 0]) (t := 62) ?_; intro gb328 hg w20 hbox hb; have BK328 := qa (hbox); have GW328 := qa (zge (zb0 HB) hg); have GE328 := GW328; replace HB := qa (below_step (zb0 HB) hb); clear hb hbox hg; obtain ⟨hcz21_0, hcz21_1, hcz21_2, hcz21_3⟩ := qc4 BK328; obtain ⟨hfz21_0, hfz21_1, hfz21_2, hfz21_3⟩ := qz4 BK328))
             have n0_ : Aside0 (((((w20.setCell ⟨gb328, 0, none⟩ (.int .i64 ((rd_T62 l0 x7_1).f0))).setCell ⟨gb328, 1, none⟩ (.int .i64 ((rd_T62 l0 x7_1).f1))).setCell ⟨gb328, 2, none⟩ (.int .i64 ((rd_T62 l0 x7_1).f2))).setCell ⟨gb328, 3, none⟩ (.int .i64 ((rd_T62 l0 x7_1).f3))).heap[gb328]? = some (.cells #[.int .i64 ((rd_T62 l0 x7_1).f0), .int .i64 ((rd_T62 l0 x7_1).f1), .int .i64 ((rd_T62 l0 x7_1).f2), .int .i64 ((rd_T62 l0 x7_1).f3)] 62 (0, 0))) := ⟨qs BK328⟩
             have n1_ : Aside0 (Below w.heap.size w ((((w20.setCell ⟨gb328, 0, none⟩ (.int .i64 ((rd_T62 l0 x7_1).f0))).setCell ⟨gb328, 1, none⟩ (.int .i64 ((rd_T62 l0 x7_1).f1))).setCell ⟨gb328, 2, none⟩ (.int .i64 ((rd_T62 l0 x7_1).f2))).setCell ⟨gb328, 3, none⟩ (.int .i64 ((rd_T62 l0 x7_1).f3)))) := ⟨(zb1 HB)⟩
             (try clear BK328)
             (try clear HB)
             generalize ((((w20.setCell ⟨gb328, 0, none⟩ (.int .i64 ((rd_T62 l0 x7_1).f0))).setCell ⟨gb328, 1, none⟩ (.int .i64 ((rd_T62 l0 x7_1).f1))).setCell ⟨gb328, 2, none⟩ (.int .i64 ((rd_T62 l0 x7_1).f2))).setCell ⟨gb328, 3, none⟩ (.int .i64 ((rd_T62 l0 x7_1).f3))) = w22 at n0_ n1_ ⊢
             have BK328 := n0_; have HB := n1_
             clear n0_ n1_
             replace BK328 := qa (blk_drew BK328.out); replace HB := qa (below_drew1 HB.out)
             have p331 : 0 ≤ ((ji15) : Int) := qd
             have q331 : (ji15) < (l0.length : Int) := qd
             obtain ⟨ad331, e331, hx331_0, hx331_1, hx331_2, hx331_3⟩ := at_T62 HR0.out (ji15) p331 q331
             have hw331_3 := hx331_3; have hw331_2 := hx331_2; have hw331_1 := hx331_1; have hw331_0 := hx331_0
             obtain rfl : ad327 = ad331 := (by injection e331)
             replace hx331_0 := qb HB hx331_0
             replace hx331_1 := qb HB hx331_1
             replace hx331_2 := qb HB hx331_2
             replace hx331_3 := qb HB hx331_3
             replace p331 := eq_true p331
             replace q331 := eq_true q331
             refine start_ (n := 28) (S := fun w' => w'.cell? ⟨gb328, 0, none⟩ = some (.int .i64 ((rd_T62 l0 x7_1).f0)) ∧ w'.cell? ⟨gb328, 1, none⟩ = some (.int .i64 ((rd_T62 l0 x7_1).f1)) ∧ w'.cell? ⟨gb328, 2, none⟩ = some (.int .i64 ((rd_T62 l0 x7_1).f2)) ∧ w'.cell? ⟨gb328, 3, none⟩ = some (.int .i64 ((rd_T62 l0 x7_1).f3)) ∧ w'.cell? (ad327.add (((ji15)).toNat * 4)) = some (.int .i64 ((rd_T62 l0 (ji15)).f0)) ∧ w'.cell? ⟨(ad327.add (((ji15)).toNat * 4)).block, (ad327.add (((ji15)).toNat * 4)).off + 1, none⟩ = some (.int .i64 ((rd_T62 l0 (ji15)).f1)) ∧ w'.cell? ⟨(ad327.add (((ji15)).toNat * 4)).block, (ad327.add (((ji15)).toNat * 4)).off + 2, none⟩ = some (.int .i64 ((rd_T62 l0 (ji15)).f2)) ∧ w'.cell? ⟨(ad327.add (((ji15)).toNat * 4)).block, (ad327.add (((ji15)).toNat * 4)).off + 3, none⟩ = some (.int .i64 ((rd_T62 l0 (ji15)).f3))) (ds := []) (bn 28 0) (by kernel_rfl) rfl rfl ⟨zc BK328 0, zc BK328 1, zc BK328 2, zc BK328 3, (qb HB hw331_0), (qb HB hw331_1), (qb HB hw331_2), (qb HB hw331_3)⟩ (fun hHeld => ?_); refine with_tabW impl_isPoly.tab4 impl_isPoly.bits4 (fun HT_ HW_ => ?_)
             generalize w22.drew = w23 at BK328 HB hx331_0 hx331_1 hx331_2 hx331_3 hHeld ⊢
             refine qp 0 12 28 1 HT_ ?_
             refine qk 1 13 28 3 HT_ HW_ hHeld ?_
             refine qp 2 14 28 7 HT_ ?_
             refine qp 3 15 28 15 HT_ ?_
             refine qp 4 16 28 31 HT_ ?_
             refine qk 5 17 28 63 HT_ HW_ hHeld ?_
             refine one_ (i := 6) (N := some 18) (bn 28 127) rfl rfl (one_of HT_.out (by kernel_rfl)) (by decide) (fun K hK => ?_)
             refine goes_ Tryz.func47 (by kernel_rfl) rfl #[.int .i64 ((rd_T62 l0 x7_1).f0), .int .i64 (-1000), .int .i64 1000] (by rfl) rfl rfl zq6 ?_
             with_reducible refine (impl_inside.calls ((rd_T62 l0 x7_1).f0) (-1000) 1000 true _ A10.out).mono ?_
             rintro e w' ⟨rfl, ⟨nd, rfl⟩⟩
             refine ⟨_, rfl, ?_⟩
             refine hK.out _ _ ⟨zc BK328 0, zc BK328 1, zc BK328 2, zc BK328 3, (qb HB hw331_0), (qb HB hw331_1), (qb HB hw331_2), (qb HB hw331_3)⟩ (fun hHeld => ?_)
             clear hK K
             refine qt ?_
             refine qp 7 19 28 255 HT_ ?_
             refine qp 8 20 28 511 HT_ ?_
             refine qp 9 21 28 1023 HT_ ?_
             refine qk 10 22 28 2047 HT_ HW_ hHeld ?_
             refine one_ (i := 11) (N := some 23) (bn 28 4095) rfl rfl (one_of HT_.out (by kernel_rfl)) (by decide) (fun K hK => ?_)
             refine goes_ Tryz.func63 (by kernel_rfl) rfl #[.agg #[.int .i64 ((rd_T62 l0 x7_1).f0), .int .i64 ((rd_T62 l0 x7_1).f1), .int .i64 ((rd_T62 l0 x7_1).f2), .int .i64 ((rd_T62 l0 x7_1).f3)]] (by rfl) rfl rfl zq6 ?_
             with_reducible refine (impl_hasDegree.calls ((rd_T62 l0 x7_1).f0) ((rd_T62 l0 x7_1).f1) ((rd_T62 l0 x7_1).f2) ((rd_T62 l0 x7_1).f3) true _ A12.out).mono ?_
             rintro e w24 ⟨rfl, hb⟩
             refine ⟨_, rfl, ?_⟩
             replace BK328 := qa (zbb BK328 hb); replace HB := qa (below_step (zb1 HB) hb)
             (try clear hb)
             (try clear hb2)
             (try clear hk)
             (try clear hi)
             refine hK.out _ _ ⟨zc BK328 0, zc BK328 1, zc BK328 2, zc BK328 3, (qb HB hw331_0), (qb HB hw331_1), (qb HB hw331_2), (qb HB hw331_3)⟩ (fun hHeld => ?_)
             clear hK K
             refine qt ?_
             refine qp 12 24 28 8191 HT_ ?_
             refine qp 13 25 28 16383 HT_ ?_
             refine qp 14 26 28 32767 HT_ ?_
             refine qp 15 27 28 65535 HT_ ?_
             refine qp 16 28 28 131071 HT_ ?_
             refine qp 17 29 28 262143 HT_ ?_
             refine qp 18 30 28 524287 HT_ ?_
             refine qp 19 31 28 1048575 HT_ ?_
             refine qp 20 32 28 2097151 HT_ ?_
             refine qp 21 33 28 4194303 HT_ ?_
             refine qk 22 34 28 8388607 HT_ HW_ hHeld ?_
             refine qk 23 35 28 16777215 HT_ HW_ hHeld ?_
             refine one_ (i := 24) (N := some 36) (bn 28 33554431) rfl rfl (one_of HT_.out (by kernel_rfl)) (by decide) (fun K hK => ?_)
             refine goes_ Tryz.func64 (by kernel_rfl) rfl #[.agg #[.int .i64 ((rd_T62 l0 (ji15)).f0), .int .i64 ((rd_T62 l0 (ji15)).f1), .int .i64 ((rd_T62 l0 (ji15)).f2), .int .i64 ((rd_T62 l0 (ji15)).f3)], .agg #[.int .i64 ((rd_T62 l0 x7_1).f0), .int .i64 ((rd_T62 l0 x7_1).f1), .int .i64 ((rd_T62 l0 x7_1).f2), .int .i64 ((rd_T62 l0 x7_1).f3)]] (by rfl) rfl rfl (by (try simp only [List.map_toArray, List.map_cons, List.map_nil]); first | done | (simp only [hji15]; rfl) | rfl | (simp only [List.length_drop, List.length_take]; rfl)) ?_
             with_reducible refine (impl_compareTerms.calls k1 ((rd_T62 l0 (ji15)).f0) ((rd_T62 l0 (ji15)).f1) ((rd_T62 l0 (ji15)).f2) ((rd_T62 l0 (ji15)).f3) ((rd_T62 l0 x7_1).f0) ((rd_T62 l0 x7_1).f1) ((rd_T62 l0 x7_1).f2) ((rd_T62 l0 x7_1).f3) t332 _ A18.out).mono ?_
             rintro e w25 ⟨rfl, hb⟩
             refine ⟨_, rfl, ?_⟩
             replace BK328 := qa (zbb BK328 hb); replace HB := qa (below_step (zb1 HB) hb)
             (try clear hb)
             (try clear hb2)
             (try clear hk)
             (try clear hi)
             refine hK.out _ _ ⟨zc BK328 0, zc BK328 1, zc BK328 2, zc BK328 3, (qb HB hw331_0), (qb HB hw331_1), (qb HB hw331_2), (qb HB hw331_3)⟩ (fun hHeld => ?_)
             clear hK K
             refine qt ?_
             refine qp 25 37 28 67108863 HT_ ?_
             refine qp 26 38 28 134217727 HT_ ?_
             refine qp 27 39 28 268435455 HT_ ?_
             refine done_ (done_of HT_.out (by kernel_rfl)) ?_
             try go_wp2
             go_ret
             exact ⟨by first | rfl | (simp [errW_none, errW_some] <;> rfl) | (simp only [← hji15]; first | rfl | (simp [errW_none, errW_some] <;> rfl)) | (simp [*, errW_none, errW_some] <;> rfl), (zb1 HB)⟩
            ·
             rw [if_neg c19] at H
             have c19b0 := decide_eq_false c19
             clear c19
             have H' := qa H
             clear H
             have p327 : 0 ≤ (x7_1 : Int) := qd
             have q327 : x7_1 < (l0.length : Int) := qd
             obtain ⟨ad327, e327, hx327_0, hx327_1, hx327_2, hx327_3⟩ := at_T62 HR0.out x7_1 p327 q327
             cases e327
             replace hx327_0 := qb HB hx327_0
             replace hx327_1 := qb HB hx327_1
             replace hx327_2 := qb HB hx327_2
             replace hx327_3 := qb HB hx327_3
             replace p327 := eq_true p327
             replace q327 := eq_true q327
             try go_wp2_with (first | ((with_reducible refine gate_dst (N := 4) rfl ?_); refine zbe (N := 4) (cs := #[.int .i64 0, .int .i64 0, .int .i64 0, .int .i64 0]) (t := 62) ?_; intro gb328 hg w26 hbox hb; have BK328 := qa (hbox); have GW328 := qa (zge (zb0 HB) hg); have GE328 := GW328; replace HB := qa (below_step (zb0 HB) hb); clear hb hbox hg; obtain ⟨hcz27_0, hcz27_1, hcz27_2, hcz27_3⟩ := qc4 BK328; obtain ⟨hfz27_0, hfz27_1, hfz27_2, hfz27_3⟩ := qz4 BK328))
             have n0_ : Aside0 (((((w26.setCell ⟨gb328, 0, none⟩ (.int .i64 ((rd_T62 l0 x7_1).f0))).setCell ⟨gb328, 1, none⟩ (.int .i64 ((rd_T62 l0 x7_1).f1))).setCell ⟨gb328, 2, none⟩ (.int .i64 ((rd_T62 l0 x7_1).f2))).setCell ⟨gb328, 3, none⟩ (.int .i64 ((rd_T62 l0 x7_1).f3))).heap[gb328]? = some (.cells #[.int .i64 ((rd_T62 l0 x7_1).f0), .int .i64 ((rd_T62 l0 x7_1).f1), .int .i64 ((rd_T62 l0 x7_1).f2), .int .i64 ((rd_T62 l0 x7_1).f3)] 62 (0, 0))) := ⟨qs BK328⟩
             have n1_ : Aside0 (Below w.heap.size w ((((w26.setCell ⟨gb328, 0, none⟩ (.int .i64 ((rd_T62 l0 x7_1).f0))).setCell ⟨gb328, 1, none⟩ (.int .i64 ((rd_T62 l0 x7_1).f1))).setCell ⟨gb328, 2, none⟩ (.int .i64 ((rd_T62 l0 x7_1).f2))).setCell ⟨gb328, 3, none⟩ (.int .i64 ((rd_T62 l0 x7_1).f3)))) := ⟨(zb1 HB)⟩
             (try clear BK328)
             (try clear HB)
             generalize ((((w26.setCell ⟨gb328, 0, none⟩ (.int .i64 ((rd_T62 l0 x7_1).f0))).setCell ⟨gb328, 1, none⟩ (.int .i64 ((rd_T62 l0 x7_1).f1))).setCell ⟨gb328, 2, none⟩ (.int .i64 ((rd_T62 l0 x7_1).f2))).setCell ⟨gb328, 3, none⟩ (.int .i64 ((rd_T62 l0 x7_1).f3))) = w28 at n0_ n1_ ⊢
             have BK328 := n0_; have HB := n1_
             clear n0_ n1_
             replace BK328 := qa (blk_drew BK328.out); replace HB := qa (below_drew1 HB.out)
             have p331 : 0 ≤ ((ji15) : Int) := qd
             have q331 : (ji15) < (l0.length : Int) := qd
             obtain ⟨ad331, e331, hx331_0, hx331_1, hx331_2, hx331_3⟩ := at_T62 HR0.out (ji15) p331 q331
             have hw331_3 := hx331_3; have hw331_2 := hx331_2; have hw331_1 := hx331_1; have hw331_0 := hx331_0
             obtain rfl : ad327 = ad331 := (by injection e331)
             replace hx331_0 := qb HB hx331_0
             replace hx331_1 := qb HB hx331_1
             replace hx331_2 := qb HB hx331_2
             replace hx331_3 := qb HB hx331_3
             replace p331 := eq_true p331
             replace q331 := eq_true q331
             refine start_ (n := 28) (S := fun w' => w'.cell? ⟨gb328, 0, none⟩ = some (.int .i64 ((rd_T62 l0 x7_1).f0)) ∧ w'.cell? ⟨gb328, 1, none⟩ = some (.int .i64 ((rd_T62 l0 x7_1).f1)) ∧ w'.cell? ⟨gb328, 2, none⟩ = some (.int .i64 ((rd_T62 l0 x7_1).f2)) ∧ w'.cell? ⟨gb328, 3, none⟩ = some (.int .i64 ((rd_T62 l0 x7_1).f3)) ∧ w'.cell? (ad327.add (((ji15)).toNat * 4)) = some (.int .i64 ((rd_T62 l0 (ji15)).f0)) ∧ w'.cell? ⟨(ad327.add (((ji15)).toNat * 4)).block, (ad327.add (((ji15)).toNat * 4)).off + 1, none⟩ = some (.int .i64 ((rd_T62 l0 (ji15)).f1)) ∧ w'.cell? ⟨(ad327.add (((ji15)).toNat * 4)).block, (ad327.add (((ji15)).toNat * 4)).off + 2, none⟩ = some (.int .i64 ((rd_T62 l0 (ji15)).f2)) ∧ w'.cell? ⟨(ad327.add (((ji15)).toNat * 4)).block, (ad327.add (((ji15)).toNat * 4)).off + 3, none⟩ = some (.int .i64 ((rd_T62 l0 (ji15)).f3))) (ds := []) (bn 28 0) (by kernel_rfl) rfl rfl ⟨zc BK328 0, zc BK328 1, zc BK328 2, zc BK328 3, (qb HB hw331_0), (qb HB hw331_1), (qb HB hw331_2), (qb HB hw331_3)⟩ (fun hHeld => ?_); refine with_tabW impl_isPoly.tab4 impl_isPoly.bits4 (fun HT_ HW_ => ?_)
             generalize w28.drew = w29 at BK328 HB hx331_0 hx331_1 hx331_2 hx331_3 hHeld ⊢
             refine qp 0 12 28 1 HT_ ?_
             refine qk 1 13 28 3 HT_ HW_ hHeld ?_
             refine qp 2 14 28 7 HT_ ?_
             refine qp 3 15 28 15 HT_ ?_
             refine qp 4 16 28 31 HT_ ?_
             refine qk 5 17 28 63 HT_ HW_ hHeld ?_
             refine one_ (i := 6) (N := some 18) (bn 28 127) rfl rfl (one_of HT_.out (by kernel_rfl)) (by decide) (fun K hK => ?_)
             refine goes_ Tryz.func47 (by kernel_rfl) rfl #[.int .i64 ((rd_T62 l0 x7_1).f0), .int .i64 (-1000), .int .i64 1000] (by rfl) rfl rfl zq6 ?_
             with_reducible refine (impl_inside.calls ((rd_T62 l0 x7_1).f0) (-1000) 1000 true _ A10.out).mono ?_
             rintro e w' ⟨rfl, ⟨nd, rfl⟩⟩
             refine ⟨_, rfl, ?_⟩
             refine hK.out _ _ ⟨zc BK328 0, zc BK328 1, zc BK328 2, zc BK328 3, (qb HB hw331_0), (qb HB hw331_1), (qb HB hw331_2), (qb HB hw331_3)⟩ (fun hHeld => ?_)
             clear hK K
             refine qt ?_
             refine qp 7 19 28 255 HT_ ?_
             refine qp 8 20 28 511 HT_ ?_
             refine qp 9 21 28 1023 HT_ ?_
             refine qk 10 22 28 2047 HT_ HW_ hHeld ?_
             refine one_ (i := 11) (N := some 23) (bn 28 4095) rfl rfl (one_of HT_.out (by kernel_rfl)) (by decide) (fun K hK => ?_)
             refine goes_ Tryz.func63 (by kernel_rfl) rfl #[.agg #[.int .i64 ((rd_T62 l0 x7_1).f0), .int .i64 ((rd_T62 l0 x7_1).f1), .int .i64 ((rd_T62 l0 x7_1).f2), .int .i64 ((rd_T62 l0 x7_1).f3)]] (by rfl) rfl rfl zq6 ?_
             with_reducible refine (impl_hasDegree.calls ((rd_T62 l0 x7_1).f0) ((rd_T62 l0 x7_1).f1) ((rd_T62 l0 x7_1).f2) ((rd_T62 l0 x7_1).f3) true _ A12.out).mono ?_
             rintro e w30 ⟨rfl, hb⟩
             refine ⟨_, rfl, ?_⟩
             replace BK328 := qa (zbb BK328 hb); replace HB := qa (below_step (zb1 HB) hb)
             (try clear hb)
             (try clear hb2)
             (try clear hk)
             (try clear hi)
             refine hK.out _ _ ⟨zc BK328 0, zc BK328 1, zc BK328 2, zc BK328 3, (qb HB hw331_0), (qb HB hw331_1), (qb HB hw331_2), (qb HB hw331_3)⟩ (fun hHeld => ?_)
             clear hK K
             refine qt ?_
             refine qp 12 24 28 8191 HT_ ?_
             refine qp 13 25 28 16383 HT_ ?_
             refine qp 14 26 28 32767 HT_ ?_
             refine qp 15 27 28 65535 HT_ ?_
             refine qp 16 28 28 131071 HT_ ?_
             refine qp 17 29 28 262143 HT_ ?_
             refine qp 18 30 28 524287 HT_ ?_
             refine qp 19 31 28 1048575 HT_ ?_
             refine qp 20 32 28 2097151 HT_ ?_
             refine qp 21 33 28 4194303 HT_ ?_
             refine qk 22 34 28 8388607 HT_ HW_ hHeld ?_
             refine qk 23 35 28 16777215 HT_ HW_ hHeld ?_
             refine one_ (i := 24) (N := some 36) (bn 28 33554431) rfl rfl (one_of HT_.out (by kernel_rfl)) (by decide) (fun K hK => ?_)
             refine goes_ Tryz.func64 (by kernel_rfl) rfl #[.agg #[.int .i64 ((rd_T62 l0 (ji15)).f0), .int .i64 ((rd_T62 l0 (ji15)).f1), .int .i64 ((rd_T62 l0 (ji15)).f2), .int .i64 ((rd_T62 l0 (ji15)).f3)], .agg #[.int .i64 ((rd_T62 l0 x7_1).f0), .int .i64 ((rd_T62 l0 x7_1).f1), .int .i64 ((rd_T62 l0 x7_1).f2), .int .i64 ((rd_T62 l0 x7_1).f3)]] (by rfl) rfl rfl (by (try simp only [List.map_toArray, List.map_cons, List.map_nil]); first | done | (simp only [hji15]; rfl) | rfl | (simp only [List.length_drop, List.length_take]; rfl)) ?_
             with_reducible refine (impl_compareTerms.calls k1 ((rd_T62 l0 (ji15)).f0) ((rd_T62 l0 (ji15)).f1) ((rd_T62 l0 (ji15)).f2) ((rd_T62 l0 (ji15)).f3) ((rd_T62 l0 x7_1).f0) ((rd_T62 l0 x7_1).f1) ((rd_T62 l0 x7_1).f2) ((rd_T62 l0 x7_1).f3) t332 _ A18.out).mono ?_
             rintro e w31 ⟨rfl, hb⟩
             refine ⟨_, rfl, ?_⟩
             replace BK328 := qa (zbb BK328 hb); replace HB := qa (below_step (zb1 HB) hb)
             (try clear hb)
             (try clear hb2)
             (try clear hk)
             (try clear hi)
             refine hK.out _ _ ⟨zc BK328 0, zc BK328 1, zc BK328 2, zc BK328 3, (qb HB hw331_0), (qb HB hw331_1), (qb HB hw331_2), (qb HB hw331_3)⟩ (fun hHeld => ?_)
             clear hK K
             refine qt ?_
             refine qp 25 37 28 67108863 HT_ ?_
             refine qp 26 38 28 134217727 HT_ ?_
             refine qp 27 39 28 268435455 HT_ ?_
             refine done_ (done_of HT_.out (by kernel_rfl)) ?_
             try go_wp2
             go_roundg k1
             case measure => have := HK1.out; omega
             case rel => exact ⟨(wrap64 (x7_1 + 1)), qf, H', ⟨by have := HK1.out; omega⟩, ⟨(zb1 HB)⟩⟩
           ·
            rw [if_neg c17] at H
            exact absurd H (by simp)
          ·
           rw [if_neg c16] at H
           exact absurd H (by simp)
         ·
          rw [if_neg c14] at H
          have c14b0 := decide_eq_false c14
          clear c14
          have H' := qa H
          clear H
          have p327 : 0 ≤ (x7_1 : Int) := qd
          have q327 : x7_1 < (l0.length : Int) := qd
          obtain ⟨ad327, e327, hx327_0, hx327_1, hx327_2, hx327_3⟩ := at_T62 HR0.out x7_1 p327 q327
          cases e327
          replace hx327_0 := qb HB hx327_0
          replace hx327_1 := qb HB hx327_1
          replace hx327_2 := qb HB hx327_2
          replace hx327_3 := qb HB hx327_3
          replace p327 := eq_true p327
          replace q327 := eq_true q327
          try go_wp2_with (first | ((with_reducible refine gate_dst (N := 4) rfl ?_); refine zbe (N := 4) (cs := #[.int .i64 0, .int .i64 0, .int .i64 0, .int .i64 0]) (t := 62) ?_; intro gb328 hg w32 hbox hb; have BK328 := qa (hbox); have GW328 := qa (zge (zb0 HB) hg); have GE328 := GW328; replace HB := qa (below_step (zb0 HB) hb); clear hb hbox hg; obtain ⟨hcz33_0, hcz33_1, hcz33_2, hcz33_3⟩ := qc4 BK328; obtain ⟨hfz33_0, hfz33_1, hfz33_2, hfz33_3⟩ := qz4 BK328))
          have n0_ : Aside0 (((((w32.setCell ⟨gb328, 0, none⟩ (.int .i64 ((rd_T62 l0 x7_1).f0))).setCell ⟨gb328, 1, none⟩ (.int .i64 ((rd_T62 l0 x7_1).f1))).setCell ⟨gb328, 2, none⟩ (.int .i64 ((rd_T62 l0 x7_1).f2))).setCell ⟨gb328, 3, none⟩ (.int .i64 ((rd_T62 l0 x7_1).f3))).heap[gb328]? = some (.cells #[.int .i64 ((rd_T62 l0 x7_1).f0), .int .i64 ((rd_T62 l0 x7_1).f1), .int .i64 ((rd_T62 l0 x7_1).f2), .int .i64 ((rd_T62 l0 x7_1).f3)] 62 (0, 0))) := ⟨qs BK328⟩
          have n1_ : Aside0 (Below w.heap.size w ((((w32.setCell ⟨gb328, 0, none⟩ (.int .i64 ((rd_T62 l0 x7_1).f0))).setCell ⟨gb328, 1, none⟩ (.int .i64 ((rd_T62 l0 x7_1).f1))).setCell ⟨gb328, 2, none⟩ (.int .i64 ((rd_T62 l0 x7_1).f2))).setCell ⟨gb328, 3, none⟩ (.int .i64 ((rd_T62 l0 x7_1).f3)))) := ⟨(zb1 HB)⟩
          (try clear BK328)
          (try clear HB)
          generalize ((((w32.setCell ⟨gb328, 0, none⟩ (.int .i64 ((rd_T62 l0 x7_1).f0))).setCell ⟨gb328, 1, none⟩ (.int .i64 ((rd_T62 l0 x7_1).f1))).setCell ⟨gb328, 2, none⟩ (.int .i64 ((rd_T62 l0 x7_1).f2))).setCell ⟨gb328, 3, none⟩ (.int .i64 ((rd_T62 l0 x7_1).f3))) = w34 at n0_ n1_ ⊢
          have BK328 := n0_; have HB := n1_
          clear n0_ n1_
          replace BK328 := qa (blk_drew BK328.out); replace HB := qa (below_drew1 HB.out)
          refine start_ (n := 28) (S := fun w' => w'.cell? ⟨gb328, 0, none⟩ = some (.int .i64 ((rd_T62 l0 x7_1).f0)) ∧ w'.cell? ⟨gb328, 1, none⟩ = some (.int .i64 ((rd_T62 l0 x7_1).f1)) ∧ w'.cell? ⟨gb328, 2, none⟩ = some (.int .i64 ((rd_T62 l0 x7_1).f2)) ∧ w'.cell? ⟨gb328, 3, none⟩ = some (.int .i64 ((rd_T62 l0 x7_1).f3))) (ds := []) (bn 28 0) (by kernel_rfl) rfl rfl ⟨zc BK328 0, zc BK328 1, zc BK328 2, zc BK328 3⟩ (fun hHeld => ?_); refine with_tabW impl_isPoly.tab4 impl_isPoly.bits4 (fun HT_ HW_ => ?_)
          generalize w34.drew = w35 at BK328 HB hHeld ⊢
          refine qp 0 12 28 1 HT_ ?_
          refine qk 1 13 28 3 HT_ HW_ hHeld ?_
          refine qp 2 14 28 7 HT_ ?_
          refine qp 3 15 28 15 HT_ ?_
          refine qp 4 16 28 31 HT_ ?_
          refine qk 5 17 28 63 HT_ HW_ hHeld ?_
          refine one_ (i := 6) (N := some 18) (bn 28 127) rfl rfl (one_of HT_.out (by kernel_rfl)) (by decide) (fun K hK => ?_)
          refine goes_ Tryz.func47 (by kernel_rfl) rfl #[.int .i64 ((rd_T62 l0 x7_1).f0), .int .i64 (-1000), .int .i64 1000] (by rfl) rfl rfl zq6 ?_
          with_reducible refine (impl_inside.calls ((rd_T62 l0 x7_1).f0) (-1000) 1000 true _ A10.out).mono ?_
          rintro e w' ⟨rfl, ⟨nd, rfl⟩⟩
          refine ⟨_, rfl, ?_⟩
          refine hK.out _ _ ⟨zc BK328 0, zc BK328 1, zc BK328 2, zc BK328 3⟩ (fun hHeld => ?_)
          clear hK K
          refine qt ?_
          refine qp 7 19 28 255 HT_ ?_
          refine qp 8 20 28 511 HT_ ?_
          refine qp 9 21 28 1023 HT_ ?_
          refine qk 10 22 28 2047 HT_ HW_ hHeld ?_
          refine one_ (i := 11) (N := some 23) (bn 28 4095) rfl rfl (one_of HT_.out (by kernel_rfl)) (by decide) (fun K hK => ?_)
          refine goes_ Tryz.func63 (by kernel_rfl) rfl #[.agg #[.int .i64 ((rd_T62 l0 x7_1).f0), .int .i64 ((rd_T62 l0 x7_1).f1), .int .i64 ((rd_T62 l0 x7_1).f2), .int .i64 ((rd_T62 l0 x7_1).f3)]] (by rfl) rfl rfl zq6 ?_
          with_reducible refine (impl_hasDegree.calls ((rd_T62 l0 x7_1).f0) ((rd_T62 l0 x7_1).f1) ((rd_T62 l0 x7_1).f2) ((rd_T62 l0 x7_1).f3) true _ A12.out).mono ?_
          rintro e w36 ⟨rfl, hb⟩
          refine ⟨_, rfl, ?_⟩
          replace BK328 := qa (zbb BK328 hb); replace HB := qa (below_step (zb1 HB) hb)
          (try clear hb)
          (try clear hb2)
          (try clear hk)
          (try clear hi)
          refine hK.out _ _ ⟨zc BK328 0, zc BK328 1, zc BK328 2, zc BK328 3⟩ (fun hHeld => ?_)
          clear hK K
          refine qt ?_
          refine qp 12 24 28 8191 HT_ ?_
          refine qp 13 25 28 16383 HT_ ?_
          refine qp 14 26 28 32767 HT_ ?_
          refine qp 15 27 28 65535 HT_ ?_
          refine qp 16 28 28 131071 HT_ ?_
          refine qp 17 29 28 262143 HT_ ?_
          refine qu 18 30 28 524287 HT_ ?_
          refine qu 19 31 28 1048575 HT_ ?_
          refine qu 20 32 28 2097151 HT_ ?_
          refine qu 21 33 28 4194303 HT_ ?_
          refine qu 22 34 28 8388607 HT_ ?_
          refine qu 23 35 28 16777215 HT_ ?_
          refine qu 24 36 28 33554431 HT_ ?_
          refine qu 25 37 28 67108863 HT_ ?_
          refine qp 26 38 28 134217727 HT_ ?_
          refine qp 27 39 28 268435455 HT_ ?_
          refine done_ (done_of HT_.out (by kernel_rfl)) ?_
          try go_wp2
          go_roundg k1
          case measure => have := HK1.out; omega
          case rel => exact ⟨(wrap64 (x7_1 + 1)), qf, H', ⟨by have := HK1.out; omega⟩, ⟨(zb1 HB)⟩⟩
        ·
         replace c13 := Bool.eq_false_iff.mpr c13
         subst c13
         have H1 : (some false) = some r := by rw [if_neg (show ¬ (false = true) by decide)] at H; exact H
         clear H
         have H := H1
         clear H1
         obtain rfl := Option.some.inj H
         have p327 : 0 ≤ (x7_1 : Int) := qd
         have q327 : x7_1 < (l0.length : Int) := qd
         obtain ⟨ad327, e327, hx327_0, hx327_1, hx327_2, hx327_3⟩ := at_T62 HR0.out x7_1 p327 q327
         cases e327
         replace hx327_0 := qb HB hx327_0
         replace hx327_1 := qb HB hx327_1
         replace hx327_2 := qb HB hx327_2
         replace hx327_3 := qb HB hx327_3
         replace p327 := eq_true p327
         replace q327 := eq_true q327
         try go_wp2_with (first | ((with_reducible refine gate_dst (N := 4) rfl ?_); refine zbe (N := 4) (cs := #[.int .i64 0, .int .i64 0, .int .i64 0, .int .i64 0]) (t := 62) ?_; intro gb328 hg w37 hbox hb; have BK328 := qa (hbox); have GW328 := qa (zge (zb0 HB) hg); have GE328 := GW328; replace HB := qa (below_step (zb0 HB) hb); clear hb hbox hg; obtain ⟨hcz38_0, hcz38_1, hcz38_2, hcz38_3⟩ := qc4 BK328; obtain ⟨hfz38_0, hfz38_1, hfz38_2, hfz38_3⟩ := qz4 BK328))
         have n0_ : Aside0 (((((w37.setCell ⟨gb328, 0, none⟩ (.int .i64 ((rd_T62 l0 x7_1).f0))).setCell ⟨gb328, 1, none⟩ (.int .i64 ((rd_T62 l0 x7_1).f1))).setCell ⟨gb328, 2, none⟩ (.int .i64 ((rd_T62 l0 x7_1).f2))).setCell ⟨gb328, 3, none⟩ (.int .i64 ((rd_T62 l0 x7_1).f3))).heap[gb328]? = some (.cells #[.int .i64 ((rd_T62 l0 x7_1).f0), .int .i64 ((rd_T62 l0 x7_1).f1), .int .i64 ((rd_T62 l0 x7_1).f2), .int .i64 ((rd_T62 l0 x7_1).f3)] 62 (0, 0))) := ⟨qs BK328⟩
         have n1_ : Aside0 (Below w.heap.size w ((((w37.setCell ⟨gb328, 0, none⟩ (.int .i64 ((rd_T62 l0 x7_1).f0))).setCell ⟨gb328, 1, none⟩ (.int .i64 ((rd_T62 l0 x7_1).f1))).setCell ⟨gb328, 2, none⟩ (.int .i64 ((rd_T62 l0 x7_1).f2))).setCell ⟨gb328, 3, none⟩ (.int .i64 ((rd_T62 l0 x7_1).f3)))) := ⟨(zb1 HB)⟩
         (try clear BK328)
         (try clear HB)
         generalize ((((w37.setCell ⟨gb328, 0, none⟩ (.int .i64 ((rd_T62 l0 x7_1).f0))).setCell ⟨gb328, 1, none⟩ (.int .i64 ((rd_T62 l0 x7_1).f1))).setCell ⟨gb328, 2, none⟩ (.int .i64 ((rd_T62 l0 x7_1).f2))).setCell ⟨gb328, 3, none⟩ (.int .i64 ((rd_T62 l0 x7_1).f3))) = w39 at n0_ n1_ ⊢
         have BK328 := n0_; have HB := n1_
         clear n0_ n1_
         replace BK328 := qa (blk_drew BK328.out); replace HB := qa (below_drew1 HB.out)
         refine start_ (n := 28) (S := fun w' => w'.cell? ⟨gb328, 0, none⟩ = some (.int .i64 ((rd_T62 l0 x7_1).f0)) ∧ w'.cell? ⟨gb328, 1, none⟩ = some (.int .i64 ((rd_T62 l0 x7_1).f1)) ∧ w'.cell? ⟨gb328, 2, none⟩ = some (.int .i64 ((rd_T62 l0 x7_1).f2)) ∧ w'.cell? ⟨gb328, 3, none⟩ = some (.int .i64 ((rd_T62 l0 x7_1).f3))) (ds := []) (bn 28 0) (by kernel_rfl) rfl rfl ⟨zc BK328 0, zc BK328 1, zc BK328 2, zc BK328 3⟩ (fun hHeld => ?_); refine with_tabW impl_isPoly.tab4 impl_isPoly.bits4 (fun HT_ HW_ => ?_)
         generalize w39.drew = w40 at BK328 HB hHeld ⊢
         refine qp 0 12 28 1 HT_ ?_
         refine qk 1 13 28 3 HT_ HW_ hHeld ?_
         refine qp 2 14 28 7 HT_ ?_
         refine qp 3 15 28 15 HT_ ?_
         refine qp 4 16 28 31 HT_ ?_
         refine qk 5 17 28 63 HT_ HW_ hHeld ?_
         refine one_ (i := 6) (N := some 18) (bn 28 127) rfl rfl (one_of HT_.out (by kernel_rfl)) (by decide) (fun K hK => ?_)
         refine goes_ Tryz.func47 (by kernel_rfl) rfl #[.int .i64 ((rd_T62 l0 x7_1).f0), .int .i64 (-1000), .int .i64 1000] (by rfl) rfl rfl zq6 ?_
         with_reducible refine (impl_inside.calls ((rd_T62 l0 x7_1).f0) (-1000) 1000 true _ A10.out).mono ?_
         rintro e w' ⟨rfl, ⟨nd, rfl⟩⟩
         refine ⟨_, rfl, ?_⟩
         refine hK.out _ _ ⟨zc BK328 0, zc BK328 1, zc BK328 2, zc BK328 3⟩ (fun hHeld => ?_)
         clear hK K
         refine qt ?_
         refine qp 7 19 28 255 HT_ ?_
         refine qp 8 20 28 511 HT_ ?_
         refine qp 9 21 28 1023 HT_ ?_
         refine qk 10 22 28 2047 HT_ HW_ hHeld ?_
         refine one_ (i := 11) (N := some 23) (bn 28 4095) rfl rfl (one_of HT_.out (by kernel_rfl)) (by decide) (fun K hK => ?_)
         refine goes_ Tryz.func63 (by kernel_rfl) rfl #[.agg #[.int .i64 ((rd_T62 l0 x7_1).f0), .int .i64 ((rd_T62 l0 x7_1).f1), .int .i64 ((rd_T62 l0 x7_1).f2), .int .i64 ((rd_T62 l0 x7_1).f3)]] (by rfl) rfl rfl zq6 ?_
         with_reducible refine (impl_hasDegree.calls ((rd_T62 l0 x7_1).f0) ((rd_T62 l0 x7_1).f1) ((rd_T62 l0 x7_1).f2) ((rd_T62 l0 x7_1).f3) false _ A12.out).mono ?_
         rintro e w41 ⟨rfl, hb⟩
         refine ⟨_, rfl, ?_⟩
         replace BK328 := qa (zbb BK328 hb); replace HB := qa (below_step (zb1 HB) hb)
         (try clear hb)
         (try clear hb2)
         (try clear hk)
         (try clear hi)
         refine hK.out _ _ ⟨zc BK328 0, zc BK328 1, zc BK328 2, zc BK328 3⟩ (fun hHeld => ?_)
         clear hK K
         refine qt ?_
         refine qp 12 24 28 8191 HT_ ?_
         refine qp 13 25 28 16383 HT_ ?_
         refine qp 14 26 28 32767 HT_ ?_
         refine qu 15 27 28 65535 HT_ ?_
         refine qu 16 28 28 131071 HT_ ?_
         refine qu 17 29 28 262143 HT_ ?_
         refine qu 18 30 28 524287 HT_ ?_
         refine qu 19 31 28 1048575 HT_ ?_
         refine qu 20 32 28 2097151 HT_ ?_
         refine qu 21 33 28 4194303 HT_ ?_
         refine qu 22 34 28 8388607 HT_ ?_
         refine qu 23 35 28 16777215 HT_ ?_
         refine qu 24 36 28 33554431 HT_ ?_
         refine qu 25 37 28 67108863 HT_ ?_
         refine qu 26 38 28 134217727 HT_ ?_
         refine qp 27 39 28 268435455 HT_ ?_
         refine done_ (done_of HT_.out (by kernel_rfl)) ?_
         try go_wp2
         go_ret
         exact ⟨by first | rfl | (simp [errW_none, errW_some] <;> rfl) | (simp [*, errW_none, errW_some] <;> rfl), (zb1 HB)⟩
       ·
        replace c11 := Bool.eq_false_iff.mpr c11
        subst c11
        have H1 : (some false) = some r := by rw [if_neg (show ¬ (false = true) by decide)] at H; exact H
        clear H
        have H := H1
        clear H1
        obtain rfl := Option.some.inj H
        have p327 : 0 ≤ (x7_1 : Int) := qd
        have q327 : x7_1 < (l0.length : Int) := qd
        obtain ⟨ad327, e327, hx327_0, hx327_1, hx327_2, hx327_3⟩ := at_T62 HR0.out x7_1 p327 q327
        cases e327
        replace hx327_0 := qb HB hx327_0
        replace hx327_1 := qb HB hx327_1
        replace hx327_2 := qb HB hx327_2
        replace hx327_3 := qb HB hx327_3
        replace p327 := eq_true p327
        replace q327 := eq_true q327
        try go_wp2_with (first | ((with_reducible refine gate_dst (N := 4) rfl ?_); refine zbe (N := 4) (cs := #[.int .i64 0, .int .i64 0, .int .i64 0, .int .i64 0]) (t := 62) ?_; intro gb328 hg w42 hbox hb; have BK328 := qa (hbox); have GW328 := qa (zge (zb0 HB) hg); have GE328 := GW328; replace HB := qa (below_step (zb0 HB) hb); clear hb hbox hg; obtain ⟨hcz43_0, hcz43_1, hcz43_2, hcz43_3⟩ := qc4 BK328; obtain ⟨hfz43_0, hfz43_1, hfz43_2, hfz43_3⟩ := qz4 BK328))
        have n0_ : Aside0 (((((w42.setCell ⟨gb328, 0, none⟩ (.int .i64 ((rd_T62 l0 x7_1).f0))).setCell ⟨gb328, 1, none⟩ (.int .i64 ((rd_T62 l0 x7_1).f1))).setCell ⟨gb328, 2, none⟩ (.int .i64 ((rd_T62 l0 x7_1).f2))).setCell ⟨gb328, 3, none⟩ (.int .i64 ((rd_T62 l0 x7_1).f3))).heap[gb328]? = some (.cells #[.int .i64 ((rd_T62 l0 x7_1).f0), .int .i64 ((rd_T62 l0 x7_1).f1), .int .i64 ((rd_T62 l0 x7_1).f2), .int .i64 ((rd_T62 l0 x7_1).f3)] 62 (0, 0))) := ⟨qs BK328⟩
        have n1_ : Aside0 (Below w.heap.size w ((((w42.setCell ⟨gb328, 0, none⟩ (.int .i64 ((rd_T62 l0 x7_1).f0))).setCell ⟨gb328, 1, none⟩ (.int .i64 ((rd_T62 l0 x7_1).f1))).setCell ⟨gb328, 2, none⟩ (.int .i64 ((rd_T62 l0 x7_1).f2))).setCell ⟨gb328, 3, none⟩ (.int .i64 ((rd_T62 l0 x7_1).f3)))) := ⟨(zb1 HB)⟩
        (try clear BK328)
        (try clear HB)
        generalize ((((w42.setCell ⟨gb328, 0, none⟩ (.int .i64 ((rd_T62 l0 x7_1).f0))).setCell ⟨gb328, 1, none⟩ (.int .i64 ((rd_T62 l0 x7_1).f1))).setCell ⟨gb328, 2, none⟩ (.int .i64 ((rd_T62 l0 x7_1).f2))).setCell ⟨gb328, 3, none⟩ (.int .i64 ((rd_T62 l0 x7_1).f3))) = w44 at n0_ n1_ ⊢
        have BK328 := n0_; have HB := n1_
        clear n0_ n1_
        replace BK328 := qa (blk_drew BK328.out); replace HB := qa (below_drew1 HB.out)
        refine start_ (n := 28) (S := fun w' => w'.cell? ⟨gb328, 0, none⟩ = some (.int .i64 ((rd_T62 l0 x7_1).f0)) ∧ w'.cell? ⟨gb328, 1, none⟩ = some (.int .i64 ((rd_T62 l0 x7_1).f1)) ∧ w'.cell? ⟨gb328, 2, none⟩ = some (.int .i64 ((rd_T62 l0 x7_1).f2)) ∧ w'.cell? ⟨gb328, 3, none⟩ = some (.int .i64 ((rd_T62 l0 x7_1).f3))) (ds := []) (bn 28 0) (by kernel_rfl) rfl rfl ⟨zc BK328 0, zc BK328 1, zc BK328 2, zc BK328 3⟩ (fun hHeld => ?_); refine with_tabW impl_isPoly.tab4 impl_isPoly.bits4 (fun HT_ HW_ => ?_)
        generalize w44.drew = w45 at BK328 HB hHeld ⊢
        refine qp 0 12 28 1 HT_ ?_
        refine qk 1 13 28 3 HT_ HW_ hHeld ?_
        refine qp 2 14 28 7 HT_ ?_
        refine qp 3 15 28 15 HT_ ?_
        refine qp 4 16 28 31 HT_ ?_
        refine qk 5 17 28 63 HT_ HW_ hHeld ?_
        refine one_ (i := 6) (N := some 18) (bn 28 127) rfl rfl (one_of HT_.out (by kernel_rfl)) (by decide) (fun K hK => ?_)
        refine goes_ Tryz.func47 (by kernel_rfl) rfl #[.int .i64 ((rd_T62 l0 x7_1).f0), .int .i64 (-1000), .int .i64 1000] (by rfl) rfl rfl zq6 ?_
        with_reducible refine (impl_inside.calls ((rd_T62 l0 x7_1).f0) (-1000) 1000 false _ A10.out).mono ?_
        rintro e w' ⟨rfl, ⟨nd, rfl⟩⟩
        refine ⟨_, rfl, ?_⟩
        refine hK.out _ _ ⟨zc BK328 0, zc BK328 1, zc BK328 2, zc BK328 3⟩ (fun hHeld => ?_)
        clear hK K
        refine qt ?_
        refine qp 7 19 28 255 HT_ ?_
        refine qp 8 20 28 511 HT_ ?_
        refine qp 9 21 28 1023 HT_ ?_
        refine qu 10 22 28 2047 HT_ ?_
        refine qu 11 23 28 4095 HT_ ?_
        refine qu 12 24 28 8191 HT_ ?_
        refine qp 13 25 28 16383 HT_ ?_
        refine qp 14 26 28 32767 HT_ ?_
        refine qu 15 27 28 65535 HT_ ?_
        refine qu 16 28 28 131071 HT_ ?_
        refine qu 17 29 28 262143 HT_ ?_
        refine qu 18 30 28 524287 HT_ ?_
        refine qu 19 31 28 1048575 HT_ ?_
        refine qu 20 32 28 2097151 HT_ ?_
        refine qu 21 33 28 4194303 HT_ ?_
        refine qu 22 34 28 8388607 HT_ ?_
        refine qu 23 35 28 16777215 HT_ ?_
        refine qu 24 36 28 33554431 HT_ ?_
        refine qu 25 37 28 67108863 HT_ ?_
        refine qu 26 38 28 134217727 HT_ ?_
        refine qp 27 39 28 268435455 HT_ ?_
        refine done_ (done_of HT_.out (by kernel_rfl)) ?_
        try go_wp2
        go_ret
        exact ⟨by first | rfl | (simp [errW_none, errW_some] <;> rfl) | (simp [*, errW_none, errW_some] <;> rfl), (zb1 HB)⟩
     ·
      rw [if_neg c4] at H
      exact absurd H (by simp)
    ·
     rw [if_neg c3] at H
     exact absurd H (by simp)
   ·
    rw [if_neg c2] at H
    have c2b0 := decide_eq_false c2
    clear c2
    obtain rfl := Option.some.inj H
    go_wp2
    go_ret
    exact ⟨by first | rfl | (simp [errW_none, errW_some] <;> rfl) | (simp [*, errW_none, errW_some] <;> rfl), (zb0 HB)⟩
/-! ### impl_polyResult: function 36 -/
theorem z36_0 {P Q : Prop} (h : Aside0 (Q)) (f : Q → P := by intro h_; repeat (first | (with_reducible first | exact h_ | apply Kept.alloc | apply Kept.drewN | apply Kept.drew) | exact h_)) : P := f h.out
set_option maxHeartbeats 8000000 in
set_option maxRecDepth 100000 in
theorem impl_polyResult.calls (k : Nat) (P0_ : Nat → Prop) (u9000_ : Value) (l0 : List (S62)) (r1 : List (S62)) (r2 : Bool) (w0 w : World) (hB : Below w0.heap.size w0 w) (ho0 : Kd.R k62 62 w w0.heap.size P0_ u9000_ l0) (h : impl_polyResult.f k l0 = some (r1, r2)) :
  Calls Tryz.prog 36 #[u9000_] w fun e w' => ∃ v0_ : Value, e = .returned (.tuple #[v0_, .bool r2]) ∧ Kd.R k62 62 w' w0.heap.size (fun k_ => (P0_ k_ ∨ w.heap.size ≤ k_)) v0_ r1 ∧ Below w0.heap.size w0 w' ∧ Kept w w' (fun k_ => P0_ k_) := by
 have HO0 := qa (show Kd.R k62 62 w w0.heap.size (fun k_ => (P0_ k_ ∨ w.heap.size ≤ k_)) u9000_ l0 from Kd.R_mono ho0 (fun k_ hk => (.inl hk)))
 have HK := qa (Kept.refl w (fun k_ => P0_ k_))
 have HW0 := qa hB.size
 have HB := qa hB
 clear hB
 have H : ((impl_isPoly.f k l0).bind fun t455 => (if t455 = true then (some (l0, true)) else (some (([] : List (S62)), false)))) = some (r1, r2) := h
 clear h
 replace H := qo H
 obtain ⟨t455, A2, H⟩ := H
 replace H : (if t455 = true then (some (l0, true)) else (some (([] : List (S62)), false))) = some (r1, r2) := H
 by_cases c3 : t455 = true
 ·
  subst c3
  have H1 : (some (l0, true)) = some (r1, r2) := by rw [if_pos rfl] at H; exact H
  clear H
  have H := H1
  clear H1
  simp only [Option.some.injEq, Prod.mk.injEq] at H
  obtain ⟨rfl, rfl⟩ := H
  obtain ⟨Ao4, co4, eo4⟩ := Kd.R_slice HO0.out
  subst eo4
  go_enter Tryz.func36, Tryz.ntmps36
  go_wp2_with (first | ((with_reducible refine gate_callee (f := 30) rfl ?_); refine qg 5 Tryz.func30 #[.slice Ao4 l0.length co4] ?_; (with_reducible refine (impl_isPoly.calls k _ _ l0 true _ ?side1 ?side2 A2.out).mono ?_); (case side1 => repeat (first | exact (Kd.R_reads' HO0.out).2.2 | (with_reducible refine Kd.C_alloc ?_ _) | (with_reducible refine Kd.C_drewN ?_ _) | (with_reducible refine Kd.C_drew ?_))); (case side2 => exact (Kd.R_reads' HO0.out).2.1); rintro e w5 ⟨rfl, hb⟩; refine ⟨_, rfl, ?_⟩; replace HO0 := qa (Kd.R_below (zq3 HO0) hb); replace HK := qa (Kept.below (S := (fun k_ => P0_ k_)) (z36_0 HK) hb); replace HB := qa (below_step (zb0 HB) hb); (try clear hb); (try clear hb2); (try clear hk); (try clear hi)))
  go_ret2
  exact ⟨_, by first | rfl | (simp [errW_none, errW_some] <;> rfl) | (simp [*, errW_none, errW_some] <;> rfl), by (with_reducible repeat (first | apply Kd.R_alloc | apply Kd.R_drewN | apply Kd.R_drew)); exact HO0.out, (zb0 HB), (z36_0 HK)⟩
 ·
  replace c3 := Bool.eq_false_iff.mpr c3
  subst c3
  have H1 : (some (([] : List (S62)), false)) = some (r1, r2) := by rw [if_neg (show ¬ (false = true) by decide)] at H; exact H
  clear H
  have H := H1
  clear H1
  simp only [Option.some.injEq, Prod.mk.injEq] at H
  obtain ⟨rfl, rfl⟩ := H
  obtain ⟨Ao6, co6, eo6⟩ := Kd.R_slice HO0.out
  subst eo6
  go_enter Tryz.func36, Tryz.ntmps36
  go_wp2_with (first | ((with_reducible refine gate_callee (f := 30) rfl ?_); refine qg 5 Tryz.func30 #[.slice Ao6 l0.length co6] ?_; (with_reducible refine (impl_isPoly.calls k _ _ l0 false _ ?side1 ?side2 A2.out).mono ?_); (case side1 => repeat (first | exact (Kd.R_reads' HO0.out).2.2 | (with_reducible refine Kd.C_alloc ?_ _) | (with_reducible refine Kd.C_drewN ?_ _) | (with_reducible refine Kd.C_drew ?_))); (case side2 => exact (Kd.R_reads' HO0.out).2.1); rintro e w7 ⟨rfl, hb⟩; refine ⟨_, rfl, ?_⟩; replace HO0 := qa (Kd.R_below (zq3 HO0) hb); replace HK := qa (Kept.below (S := (fun k_ => P0_ k_)) (z36_0 HK) hb); replace HB := qa (below_step (zb0 HB) hb); (try clear hb); (try clear hb2); (try clear hk); (try clear hi)))
  go_ret2
  exact ⟨_, by first | rfl | (simp [errW_none, errW_some] <;> rfl) | (simp [*, errW_none, errW_some] <;> rfl), by first | exact Kd.R_nil _ _ _ _ _ | exact Kd.N_nil _ _ _ _ _ | exact Kd.V_nil _ _ _ _ _ | exact Kd.Q_nil _ _ _ _ _ | exact Kd.S_nil _ _ _ _ _, (zb0 HB), (z36_0 HK)⟩
end Go.Proofs.YthanmlojikidbaaGreat.PD
