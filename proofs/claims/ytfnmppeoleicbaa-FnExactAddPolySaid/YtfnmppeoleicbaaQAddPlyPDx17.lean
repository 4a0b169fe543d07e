-- By wip/mk/drv.py
import Derived.Test.YtfnmppeoleicbaaQAddPlyPDx0
import Derived.Test.YtfnmppeoleicbaaQAddPlyPDx1
import Derived.Test.YtfnmppeoleicbaaQAddPlyPDx14
import Derived.Test.YtfnmppeoleicbaaQAddPlyPDx15
import Derived.Test.YtfnmppeoleicbaaQAddPlyPDx16
namespace Go.Proofs.Ytfnmppeoleicbaa.PD
open Go.RowKit Go.Proofs.YtfnmppeoleicbaaW.PrintWords Go.Proofs.YtfnmppeoleicbaaW.PrintLast Go.Proofs.YtfnmppeoleicbaaW.PrintMore
attribute [local go_sem] max2_int min2_int max_two min_two max_three min_three max_four min_four
set_option linter.unusedVariables false
set_option linter.unusedSimpArgs false
/-! ### impl_AddPoly: function 46 -/
-- PROOF
theorem impl_AddPoly.cat_eq {l0 l1 r : List S55} (h : impl_AddPoly.cat l0 l1 = some r) : l0.length + l1.length < 4398046511104 ∧ r = l0 ++ l1 := by
  unfold impl_AddPoly.cat at h
  split at h
  · exact ⟨by assumption, (Option.some.inj h).symm⟩
  · cases h
theorem impl_AddPoly.cap {w : World} {base : Nat} {ok : Nat → Prop} {A : Option Addr} {c : Nat} {l : List S55} (h : Kd.R k55 55 w base ok (.slice A l.length c) l) : l.length ≤ c := by
  exact (Kd.R_reads' h).2.1
theorem impl_AddPoly.zbs {P : Program} {ops : Array Oper} {rest : List Oper} {o : Oper} {a : Act} {Q : Exit → Act → World → Prop} {W : World} {N : Tmp} {cs : Array Value} {t : TypeId} {n : Nat}
    (h : ∀ g, g = W.heap.size → ∀ w1, w1.heap[g]? = some (.cells cs t (0, 0)) → Below W.heap.size W w1 → wpList P ops Q rest (a.put o.dst (.slice (some ⟨g, 0, none⟩) n n)) w1) (hd : o.dst = some N := by rfl) (hgd : o.guard = none := by rfl)
    (hrun : (execOp a.eval o).run P W = .ok (.value (.slice (some ⟨W.heap.size, 0, none⟩) n n)) (W.alloc (.cells cs t (0, 0))) := by first | (go_simp; done) | (go_simp; rfl)) : wpList P ops Q (o :: rest) a W :=
  Kd.event_run hgd hrun (h _ rfl _ (blk_new W _) (below_alloc (Below.refl _ _) _))
set_option maxHeartbeats 8000000 in
set_option maxRecDepth 100000 in
theorem impl_AddPoly.grow (n : Int) (w : World) (h0 : 0 ≤ n) (hn : n < 4398046511104) :
    Calls Try.prog 100 #[.slice none 0 0, .int .i64 n] w fun e w' => ∃ v : Value, e = .returned v ∧ Kd.R k55 55 w' w.heap.size (fun _ => True) v [] ∧ Below w.heap.size w w' := by
  have HB := Aside0.mk (Below.refl w.heap.size w)
  have e1 : wrap64 (((0 : Nat) : Int) - ((0 : Nat) : Int)) = 0 := by simp [wrap64]
  have e2 : wrap64 (n - 0) = n := by unfold wrap64; omega
  have e2' : wrap64 n = n := by unfold wrap64; omega
  have e0 : decide (n < 0) = false := decide_eq_false (by omega)
  by_cases hz : n = 0
  · subst hz
    go_enter Try.func100, Try.ntmps100
    go_wp2
    go_ret
    exact ⟨_, by first | rfl | (simp; done) | (simp [*]; done), Kd.R_nil _ _ _ _ _, HB.out⟩
  · have e3 : decide (0 < n) = true := decide_eq_true (by omega)
    obtain ⟨i0, hi0, hz0, hsz, hby⟩ := info_parts info55
    have hr : ∀ (ty : TypeId) (w : World), (Builtin.append_ #[25, 3] ty #[.slice none 0 0, .int .i64 n]).run Try.prog w = .ok (.slice (some ⟨w.heap.size, 0, none⟩) n.toNat (grownCap w n.toNat 0 55)) (w.drew.alloc (.cells (Builtin.zeroCells (.agg #[(.int .i64 0), (.int .i64 0), (.int .i64 0), (.int .i64 0)] : Value).cells n.toNat ++ Builtin.zeroCells (.agg #[(.int .i64 0), (.int .i64 0), (.int .i64 0), (.int .i64 0)] : Value).cells (grownCap w n.toNat 0 55 - n.toNat)) 55)) := by
      intro ty w
      have hx := Go.Lib.run_append_nil_zeros (P := Try.prog) w 25 3 ty 55 i0 (.agg #[(.int .i64 0), (.int .i64 0), (.int .i64 0), (.int .i64 0)] : Value) .i64 .i64 Try.underlying25 Try.underlying3 hi0 hz0 n.toNat (by omega) (by omega) (by omega) (by rw [hby]; omega)
      rw [Int.toNat_of_nonneg h0] at hx
      exact hx
    clear hz
    go_enter Try.func100, Try.ntmps100
    go_wp2_with ((with_reducible refine gate_builtin (b := .append) (xs := #[.tmp 20, .tmp 21]) rfl ?_); at_builtin; refine Go.Lib.wpList_append_run _ rfl _ _ _ _ rfl _ _ rfl rfl _ _ (hr _ _) ?_)
    go_ret
    refine ⟨_, by first | rfl | (simp; done) | (simp [*]; done), ⟨fun _ _ => trivial, [], ⟨rfl, .inr ⟨w.heap.size, grownCap w n.toNat 0 55, _, rfl, Nat.le_refl _, (by exact blk_drew (blk_new w _)), Nat.zero_le _, grownCap_le_maxLen w _ _ _ (by unfold maxLen; omega), ?_, by simp⟩⟩, Reps.none _ _⟩, by repeat (first | (with_reducible first | exact HB.out | apply below_alloc | apply pw_below_drewN | apply below_drew1) | exact HB.out)⟩
    have hge := grownCap_ge w n.toNat 0 55
    have hk : (k55).sz = 4 := rfl
    simp [Builtin.zeroCells, hk, Value.cells]
    omega
set_option maxHeartbeats 8000000 in
set_option maxRecDepth 100000 in
theorem impl_AddPoly.concat (g : Nat) (A1 : Option Addr) (c1 : Nat) (l1 : List S55) (A2 : Option Addr) (c2 : Nat) (l2 : List S55) (w : World) (hG : w.heap[g]? = some (.cells #[.slice A1 l1.length c1, .slice A2 l2.length c2] 25 (0, 0))) (hr1 : Kd.C k55 w A1 l1.length l1) (hr2 : Kd.C k55 w A2 l2.length l2) (hm : l1.length + l2.length < 4398046511104) :
    Calls Try.prog 80 #[.slice (some ⟨g, 0, none⟩) 2 2] w fun e w' => ∃ v : Value, e = .returned v ∧ Kd.R k55 55 w' w.heap.size (fun _ => True) v (l1 ++ l2) ∧ Below w.heap.size w w' := by
  have HB := Aside0.mk (Below.refl w.heap.size w)
  have HR1 := Aside0.mk hr1
  have HR2 := Aside0.mk hr2
  have BKG := Aside0.mk hG
  have LM := Aside0.mk hm
  have s0 : wrap64 (0 + (l1.length : Int)) = (l1.length : Int) := by unfold wrap64; omega
  have s0' : wrap64 (l1.length : Int) = (l1.length : Int) := by unfold wrap64; omega
  have s1 : wrap64 ((l1.length : Int) + (l2.length : Int)) = (l1.length : Int) + (l2.length : Int) := by unfold wrap64; omega
  have n0 : decide ((l1.length : Int) < 0) = false := decide_eq_false (by omega)
  have n1 : decide ((l1.length : Int) + (l2.length : Int) < 0) = false := decide_eq_false (by omega)
  clear hr1 hr2 hG hm
  go_enter Try.func80, Try.ntmps80
  go_wp2
  go_loopg [3, 11] 2 (fun kq v3 v11 w' => Aside0 ((kq = 2 ∧ v3 = .int .i64 0 ∧ v11 = .int .i64 0) ∨ (kq = 1 ∧ v3 = .int .i64 (l1.length : Int) ∧ v11 = .int .i64 1) ∨ (kq = 0 ∧ v3 = .int .i64 ((l1.length : Int) + (l2.length : Int)) ∧ v11 = .int .i64 2)) ∧ Aside0 (w'.heap[g]? = some (.cells #[.slice A1 l1.length c1, .slice A2 l2.length c2] 25 (0, 0))) ∧ Aside0 (Below w.heap.size w w'))
  case atStart => exact ⟨⟨.inl ⟨rfl, rfl, rfl⟩⟩, ⟨zq1 BKG⟩, ⟨(zb0 HB)⟩⟩
  case round =>
    clear HB BKG
    obtain ⟨⟨hx⟩, BKG, HB⟩ := hrel
    have hd0 : wr.cell? ⟨g, 0, none⟩ = some (.slice A1 l1.length c1) := zc BKG 0
    have hd1 : wr.cell? ⟨g, 1, none⟩ = some (.slice A2 l2.length c2) := zc BKG 1
    rcases hx with ⟨rfl, rfl, rfl⟩ | ⟨rfl, rfl, rfl⟩ | ⟨rfl, rfl, rfl⟩
    · go_wp2
      go_roundg 1
      case measure => decide
      case rel => exact ⟨⟨.inr (.inl ⟨rfl, by first | rfl | (simp; done) | (simp [*]; done), by first | rfl | (simp; done) | (simp [*]; done)⟩)⟩, ⟨zq1 BKG⟩, ⟨(zb0 HB)⟩⟩
    · go_wp2
      go_roundg 0
      case measure => decide
      case rel => exact ⟨⟨.inr (.inr ⟨rfl, by first | rfl | (simp; done) | (simp [*]; done), by first | rfl | (simp; done) | (simp [*]; done)⟩)⟩, ⟨zq1 BKG⟩, ⟨(zb0 HB)⟩⟩
    · go_wp2_with (go_at_call 100; refine (impl_AddPoly.grow ((l1.length : Int) + (l2.length : Int)) _ (by omega) (by have := LM.out; omega)).mono ?_; rintro e w5 ⟨v0, rfl, ho, hb⟩; have HO := Aside0.mk (Kd.R_lower ho (below_size (zb0 HB))); replace BKG := Aside0.mk (zbb BKG hb); replace HB := Aside0.mk (below_step (zb0 HB) hb); clear ho hb)
      go_loopg [6, 27] 2 (fun kq v6 v27 w' => ∃ (xs : List S55), Aside0 ((kq = 2 ∧ v27 = .int .i64 0 ∧ [] = xs) ∨ (kq = 1 ∧ v27 = .int .i64 1 ∧ l1 = xs) ∨ (kq = 0 ∧ v27 = .int .i64 2 ∧ l1 ++ l2 = xs)) ∧ Aside0 (w'.heap[g]? = some (.cells #[.slice A1 l1.length c1, .slice A2 l2.length c2] 25 (0, 0))) ∧ Aside0 (Kd.R k55 55 w' w.heap.size (fun _ => True) v6 xs) ∧ Aside0 (Below w.heap.size w w'))
      case atStart => exact ⟨[], ⟨.inl ⟨rfl, rfl, rfl⟩⟩, ⟨zq1 BKG⟩, ⟨zq3 HO⟩, ⟨(zb0 HB)⟩⟩
      case round =>
        clear hd0 hd1 HB BKG HO
        obtain ⟨xs, ⟨hx⟩, BKG, HO, HB⟩ := hrel
        have hd0 : wr.cell? ⟨g, 0, none⟩ = some (.slice A1 l1.length c1) := zc BKG 0
        have hd1 : wr.cell? ⟨g, 1, none⟩ = some (.slice A2 l2.length c2) := zc BKG 1
        rcases hx with ⟨rfl, rfl, rfl⟩ | ⟨rfl, rfl, rfl⟩ | ⟨rfl, rfl, rfl⟩
        · go_wp2_with (((with_reducible refine gate_builtin (b := .append) (xs := #[.tmp 31, .tmp 32]) rfl ?_); at_builtin; refine Kd.R_append_rows k55 (w0 := w) w.heap.size rfl (.tmp 31) (.tmp 32) 25 55 (.agg #[(.int .i64 0), (.int .i64 0), (.int .i64 0), (.int .i64 0)]) 32 rfl Try.underlying25 info55 rfl (by decide) (by omega) _ [] l1 _ _ _ (fun _ => True) (fun _ => False) rfl rfl ?aO ?aR (fun _ _ h => h) (fun _ h => h.elim) ?aF ?aB ?aS ?aL ?_; (case aR => exact (Kd.C_below HR1.out (zb0 HB))); (case aB => exact (zb0 HB)); (case aF => exact (fun _ _ => trivial)); (case aO => exact (zq3 HO)); (case aS => exact (below_size (zb0 HB))); (case aL => have := LM.out; simp; omega); intro v7 w7 ho hb hg hat; have HO7 := Aside0.mk ho; have BX := Aside0.mk (blk_grown (zq1 BKG) hg (Kd.R_ne HO.out BKG.out (by decide))); replace HB := Aside0.mk hb; clear ho hb hg hat BKG; have BKG := BX; clear BX))
          go_roundg 1
          case measure => decide
          case rel => exact ⟨l1, ⟨.inr (.inl ⟨rfl, by first | rfl | (simp; done) | (simp [*]; done), rfl⟩)⟩, ⟨zq1 BKG⟩, ⟨zq3 HO7⟩, ⟨(zb0 HB)⟩⟩
        · go_wp2_with (((with_reducible refine gate_builtin (b := .append) (xs := #[.tmp 31, .tmp 32]) rfl ?_); at_builtin; refine Kd.R_append_rows k55 (w0 := w) w.heap.size rfl (.tmp 31) (.tmp 32) 25 55 (.agg #[(.int .i64 0), (.int .i64 0), (.int .i64 0), (.int .i64 0)]) 32 rfl Try.underlying25 info55 rfl (by decide) (by omega) _ l1 l2 _ _ _ (fun _ => True) (fun _ => False) rfl rfl ?aO ?aR (fun _ _ h => h) (fun _ h => h.elim) ?aF ?aB ?aS ?aL ?_; (case aR => exact (Kd.C_below HR2.out (zb0 HB))); (case aB => exact (zb0 HB)); (case aF => exact (fun _ _ => trivial)); (case aO => exact (zq3 HO)); (case aS => exact (below_size (zb0 HB))); (case aL => have := LM.out; simp; omega); intro v7 w7 ho hb hg hat; have HO7 := Aside0.mk ho; have BX := Aside0.mk (blk_grown (zq1 BKG) hg (Kd.R_ne HO.out BKG.out (by decide))); replace HB := Aside0.mk hb; clear ho hb hg hat BKG; have BKG := BX; clear BX))
          go_roundg 0
          case measure => decide
          case rel => exact ⟨l1 ++ l2, ⟨.inr (.inr ⟨rfl, by first | rfl | (simp; done) | (simp [*]; done), rfl⟩)⟩, ⟨zq1 BKG⟩, ⟨zq3 HO7⟩, ⟨(zb0 HB)⟩⟩
        · go_wp2
          go_ret
          exact ⟨_, by first | rfl | (simp; done) | (simp [*]; done), zq3 HO, (zb0 HB)⟩
set_option maxHeartbeats 8000000 in
set_option maxRecDepth 100000 in
theorem impl_AddPoly.calls (k : Nat) (A0 : Option Addr) (c0 : Nat) (l0 : List (S55)) (A1 : Option Addr) (c1 : Nat) (l1 : List (S55)) (r1 : List (S55)) (r2 : Bool) (w : World) (hr0 : Kd.C k55 w A0 l0.length l0) (hc0 : l0.length ≤ c0) (hr1 : Kd.C k55 w A1 l1.length l1) (hc1 : l1.length ≤ c1) (h : impl_AddPoly.f k l0 l1 = some (r1, r2)) :
    Calls Try.prog 46 #[.slice A0 l0.length c0, .slice A1 l1.length c1] w fun e w' => ∃ v0_ : Value, e = .returned (.tuple #[v0_, .bool r2]) ∧ Kd.R k55 55 w' w.heap.size (fun _ => True) v0_ r1 ∧ Below w.heap.size w w' := by
  have HR0 := Aside0.mk hr0
  have HC0 := Aside0.mk hc0
  clear hr0 hc0
  have HR1 := Aside0.mk hr1
  have HC1 := Aside0.mk hc1
  clear hr1 hc1
  have HB := Aside0.mk (Below.refl w.heap.size w)
  have H : ((impl_isPoly.f k l0).bind fun t314 => (if t314 = true then ((impl_isPoly.f k l1).bind fun t315 => (impl_AddPoly.j0 k l0 l1 (!t315))) else (impl_AddPoly.j0 k l0 l1 true))) = some (r1, r2) := h
  clear h
  have HC3 := Aside0.mk H
  clear H
  go_enter Try.func46, Try.ntmps46
  go_upto_region 1 with (fail)
  go_cut [13] (fun v13 wc => ∃ (kq : Nat) (x13_2 : Bool), v13 = .bool x13_2 ∧ Aside0 (impl_AddPoly.j0 kq l0 l1 x13_2 = some (r1, r2)) ∧ Aside0 (kq ≤ k) ∧ Aside0 (Below w.heap.size w wc))
  case first =>
    have H := HC3.out
    clear HC3
    replace H := Option.bind_eq_some_iff.mp H
    obtain ⟨t314, A40, H⟩ := H
    replace H : (if t314 = true then ((impl_isPoly.f k l1).bind fun t315 => (impl_AddPoly.j0 k l0 l1 (!t315))) else (impl_AddPoly.j0 k l0 l1 true)) = some (r1, r2) := H
    have A4 := Aside0.mk A40
    clear A40
    by_cases c5 : t314 = true
    · subst c5
      have H1 : ((impl_isPoly.f k l1).bind fun t315 => (impl_AddPoly.j0 k l0 l1 (!t315))) = some (r1, r2) := by rw [if_pos rfl] at H; exact H
      clear H
      have H := H1
      clear H1
      replace H := Option.bind_eq_some_iff.mp H
      obtain ⟨t315, A60, H⟩ := H
      replace H : (impl_AddPoly.j0 k l0 l1 (!t315)) = some (r1, r2) := H
      have A6 := Aside0.mk A60
      clear A60
      have H' := Aside0.mk H
      clear H
      go_wp2_with (first | ((with_reducible refine gate_callee (f := 55) rfl ?_); refine goesL_ (some 7) rfl rfl Try.func55 (by kernel_rfl) rfl #[.slice A0 l0.length c0] rfl (by (try simp only [List.map_toArray, List.map_cons, List.map_nil]); first | done | rfl | (simp only [List.length_drop, List.length_take]; rfl)) ?_; (with_reducible refine (impl_isPoly.calls k _ _ l0 true _ ?side1 ?side2 A4.out).mono ?_); (case side1 => repeat (first | exact (Kd.C_below HR0.out HB.out) | (with_reducible refine Kd.C_alloc ?_ _) | (with_reducible refine Kd.C_drewN ?_ _) | (with_reducible refine Kd.C_drew ?_))); (case side2 => exact HC0.out); rintro e w7 ⟨rfl, hb⟩; refine ⟨_, rfl, ?_⟩; have n0_ := Aside0.mk (below_step (by repeat (first | (with_reducible first | exact HB.out | apply below_alloc | apply pw_below_drewN | apply below_drew1) | exact HB.out)) hb); clear HB; have HB := n0_; clear n0_; (try clear hb); (try clear hb2); (try clear hk); (try clear hi)) | (go_at_call 55; (with_reducible refine (impl_isPoly.calls k _ _ l1 t315 _ ?side1 ?side2 A6.out).mono ?_); (case side1 => repeat (first | exact (Kd.C_below HR1.out HB.out) | (with_reducible refine Kd.C_alloc ?_ _) | (with_reducible refine Kd.C_drewN ?_ _) | (with_reducible refine Kd.C_drew ?_))); (case side2 => exact HC1.out); rintro e w8 ⟨rfl, hb⟩; have n0_ := Aside0.mk (below_step (by repeat (first | (with_reducible first | exact HB.out | apply below_alloc | apply pw_below_drewN | apply below_drew1) | exact HB.out)) hb); clear HB; have HB := n0_; clear n0_; (try clear hb); (try clear hb2); (try clear hk); (try clear hi)))
      go_meet
      case rel => exact ⟨_, (!t315), (by first | rfl | (simp; done) | (simp [*]; done)), H', ⟨by first | omega | exact Nat.le_refl _⟩, ⟨by repeat (first | (with_reducible first | exact HB.out | apply below_alloc | apply pw_below_drewN | apply below_drew1) | exact HB.out)⟩⟩
    · replace c5 := Bool.eq_false_iff.mpr c5
      subst c5
      have H1 : (impl_AddPoly.j0 k l0 l1 true) = some (r1, r2) := by rw [if_neg (show ¬ (false = true) by decide)] at H; exact H
      clear H
      have H := H1
      clear H1
      have H' := Aside0.mk H
      clear H
      go_wp2_with (first | ((with_reducible refine gate_callee (f := 55) rfl ?_); refine goesL_ (some 7) rfl rfl Try.func55 (by kernel_rfl) rfl #[.slice A0 l0.length c0] rfl (by (try simp only [List.map_toArray, List.map_cons, List.map_nil]); first | done | rfl | (simp only [List.length_drop, List.length_take]; rfl)) ?_; (with_reducible refine (impl_isPoly.calls k _ _ l0 false _ ?side1 ?side2 A4.out).mono ?_); (case side1 => repeat (first | exact (Kd.C_below HR0.out HB.out) | (with_reducible refine Kd.C_alloc ?_ _) | (with_reducible refine Kd.C_drewN ?_ _) | (with_reducible refine Kd.C_drew ?_))); (case side2 => exact HC0.out); rintro e w9 ⟨rfl, hb⟩; refine ⟨_, rfl, ?_⟩; have n0_ := Aside0.mk (below_step (by repeat (first | (with_reducible first | exact HB.out | apply below_alloc | apply pw_below_drewN | apply below_drew1) | exact HB.out)) hb); clear HB; have HB := n0_; clear n0_; (try clear hb); (try clear hb2); (try clear hk); (try clear hi)))
      go_meet
      case rel => exact ⟨_, (true), (by first | rfl | (simp; done) | (simp [*]; done)), H', ⟨by first | omega | exact Nat.le_refl _⟩, ⟨by repeat (first | (with_reducible first | exact HB.out | apply below_alloc | apply pw_below_drewN | apply below_drew1) | exact HB.out)⟩⟩
  case rest =>
    clear HC3
    try clear c1
    try clear p2
    try clear c4
    try clear c5
    obtain ⟨kq, x13_2, rfl, HA, HJ2, HB⟩ := hcut
    cases kq with
    | zero => exact absurd HA.out (by simp [impl_AddPoly.j0])
    | succ kj2 =>
      have H := HA.out
      clear HA
      simp only [impl_AddPoly.j0] at H
      by_cases c10 : x13_2 = true
      · subst c10
        have H1 : (some (([] : List (S55)), false)) = some (r1, r2) := by rw [if_pos rfl] at H; exact H
        clear H
        have H := H1
        clear H1
        simp only [Option.some.injEq, Prod.mk.injEq] at H
        obtain ⟨rfl, rfl⟩ := H
        go_wp2
        go_ret2
        exact ⟨_, by first | rfl | (simp [errW_none, errW_some] <;> rfl) | (simp [*, errW_none, errW_some] <;> rfl), by first | exact Kd.R_nil _ _ _ _ _ | exact Kd.N_nil _ _ _ _ _ | exact Kd.V_nil _ _ _ _ _ | exact Kd.Q_nil _ _ _ _ _ | exact Kd.S_nil _ _ _ _ _, by repeat (first | (with_reducible first | exact HB.out | apply below_alloc | apply pw_below_drewN | apply below_drew1) | exact HB.out)⟩
      · replace c10 := Bool.eq_false_iff.mpr c10
        subst c10
        have H1 : ((impl_AddPoly.cat l0 l1).bind fun t315 => ((impl_collect.f t315).bind fun t316 => ((impl_polyResult.f kj2 t316).bind fun bt319 => (some (bt319.1, bt319.2))))) = some (r1, r2) := by rw [if_neg (show ¬ (false = true) by decide)] at H; exact H
        clear H
        have H := H1
        clear H1
        replace H := Option.bind_eq_some_iff.mp H
        obtain ⟨t315, A100, H⟩ := H
        replace H : ((impl_collect.f t315).bind fun t316 => ((impl_polyResult.f kj2 t316).bind fun bt319 => (some (bt319.1, bt319.2)))) = some (r1, r2) := H
        obtain ⟨hm10, rfl⟩ := impl_AddPoly.cat_eq A100
        have LM10 := Aside0.mk hm10
        clear A100 hm10
        obtain ⟨y315, hy315⟩ : ∃ y_ : List (S55), y_ = l0 ++ l1 := ⟨_, rfl⟩
        rw [← hy315] at H
        have Ny315 := Aside0.mk hy315
        clear hy315
        replace H := Option.bind_eq_some_iff.mp H
        obtain ⟨t316, A110, H⟩ := H
        replace H : ((impl_polyResult.f kj2 t316).bind fun bt319 => (some (bt319.1, bt319.2))) = some (r1, r2) := H
        have A11 := Aside0.mk A110
        clear A110
        replace H := Option.bind_eq_some_iff.mp H
        obtain ⟨⟨t319, t322⟩, A120, H⟩ := H
        replace H : (some (t319, t322)) = some (r1, r2) := H
        have A12 := Aside0.mk A120
        clear A120
        simp only [Option.some.injEq, Prod.mk.injEq] at H
        obtain ⟨rfl, rfl⟩ := H
        go_wp2_with (first | ((with_reducible refine gate_dst (N := 16) rfl ?_); refine impl_AddPoly.zbs (N := 16) (cs := #[.slice A0 l0.length c0, .slice A1 l1.length c1]) (t := 25) (n := 2) ?_; intro gt hg wt hbox hb; have BK16 := Aside0.mk hbox; have n1_ := Aside0.mk (below_step (by repeat (first | (with_reducible first | exact HB.out | apply below_alloc | apply pw_below_drewN | apply below_drew1) | exact HB.out)) hb); clear HB; have HB := n1_; clear n1_ hbox hb; (try clear hg)) | (go_at_call 80; (with_reducible refine (impl_AddPoly.concat gt _ c0 l0 _ c1 l1 _ BK16.out ?side1 ?side3 LM10.out).mono ?_); (case side1 => exact (Kd.C_below HR0.out HB.out)); (case side3 => exact (Kd.C_below HR1.out HB.out)); rintro e w12 ⟨v315, rfl, ho0, hb⟩; rw [← Ny315.out] at ho0; have n0_ := Aside0.mk (Kd.R_lower ho0 (below_size (by repeat (first | (with_reducible first | exact HB.out | apply below_alloc | apply pw_below_drewN | apply below_drew1) | exact HB.out)))); have n1_ := Aside0.mk (below_step (by repeat (first | (with_reducible first | exact HB.out | apply below_alloc | apply pw_below_drewN | apply below_drew1) | exact HB.out)) hb); clear HB; have HO315 := n0_; have HB := n1_; clear n0_ n1_ BK16; (try clear hb); (try clear ho0); obtain ⟨Ao13, co13, eo13⟩ := Kd.R_slice HO315.out; subst eo13) | (go_at_call 75; (with_reducible refine (impl_collect.calls _ _ y315 t316 _ ?side1 ?side2 A11.out).mono ?_); (case side1 => exact (Kd.R_reads' HO315.out).2.2); (case side2 => exact impl_AddPoly.cap HO315.out); rintro e w13 ⟨v317, rfl, ho0, hb⟩; have n0_ := Aside0.mk (Kd.R_lower ho0 (below_size (by repeat (first | (with_reducible first | exact HB.out | apply below_alloc | apply pw_below_drewN | apply below_drew1) | exact HB.out)))); have n1_ := Aside0.mk (below_step (by repeat (first | (with_reducible first | exact HB.out | apply below_alloc | apply pw_below_drewN | apply below_drew1) | exact HB.out)) hb); clear HB; have HO318 := n0_; have HB := n1_; clear n0_ n1_; (try clear hb); (try clear hb2); (try clear hk); (try clear hi); (try clear ho0); (try clear HO315); obtain ⟨Ao14, co14, eo14⟩ := Kd.R_slice HO318.out; subst eo14) | (go_at_call 74; (with_reducible refine (impl_polyResult.calls kj2 (fun k_ => some k_ = (.slice Ao14 t316.length co14 : Value).ownBlock) (.slice Ao14 t316.length co14) t316 t319 t322 w _ ?side1 ?side2 A12.out).mono ?_); (case side1 => repeat (first | (with_reducible first | exact HB.out | apply below_alloc | apply pw_below_drewN | apply below_drew1) | exact HB.out)); (case side2 => exact Kd.R_tight rfl HO318.out); rintro e w15 ⟨v320, rfl, ho0, hb, hkp⟩; have n0_ := Aside0.mk (Kd.R_mono (ok' := fun k_ => True) ho0 (fun k_ hk_ => trivial)); have n1_ := Aside0.mk (hb); clear HB; clear HO318; have HO321 := n0_; have HB := n1_; clear n0_ n1_; (try clear hb); (try clear hkp); (try clear ho0)))
        go_ret2
        exact ⟨_, by first | rfl | (simp [errW_none, errW_some] <;> rfl) | (simp [*, errW_none, errW_some] <;> rfl), by (with_reducible repeat (first | apply Kd.R_alloc | apply Kd.R_drewN | apply Kd.R_drew)); exact HO321.out, by repeat (first | (with_reducible first | exact HB.out | apply below_alloc | apply pw_below_drewN | apply below_drew1) | exact HB.out)⟩
end Go.Proofs.Ytfnmppeoleicbaa.PD
