-- By wip/mk/drv.py
import Derived.Test.YthanmlojikidbaaQPolylsPDx0
import Derived.Test.YthanmlojikidbaaQPolylsPDx11
import Derived.Test.YthanmlojikidbaaQPolylsPDx16
import Derived.Test.YthanmlojikidbaaQPolylsPDx5
import Derived.Test.YthanmlojikidbaaQPolylsPDx4
namespace Go.Proofs.Ythanmlojikidbaa.PD
open Go.RowKit Go.Proofs.YthanmlojikidbaaW.PrintWords Go.Proofs.YthanmlojikidbaaW.PrintLast Go.Proofs.YthanmlojikidbaaW.PrintMore
attribute [local go_sem] max2_int min2_int max_two min_two max_three min_three max_four min_four
set_option linter.unusedVariables false
set_option linter.unusedSimpArgs false
/-! ### impl_AddPoly: function 18 -/
-- PROOF
theorem impl_AddPoly.cat_eq {l0 l1 r : List S51} (h : impl_AddPoly.cat l0 l1 = some r) : l0.length + l1.length < 4398046511104 ∧ r = l0 ++ l1 := by
  unfold impl_AddPoly.cat at h
  split at h
  · exact ⟨by assumption, (Option.some.inj h).symm⟩
  · cases h
theorem impl_AddPoly.cap {w : World} {base : Nat} {ok : Nat → Prop} {A : Option Addr} {c : Nat} {l : List S51} (h : Kd.R k51 51 w base ok (.slice A l.length c) l) : l.length ≤ c := by
  exact (Kd.R_reads' h).2.1
theorem impl_AddPoly.zbs {P : Program} {ops : Array Oper} {rest : List Oper} {o : Oper} {a : Act} {Q : Exit → Act → World → Prop} {W : World} {N : Tmp} {cs : Array Value} {t : TypeId} {n : Nat}
    (h : ∀ g, g = W.heap.size → ∀ w1, w1.heap[g]? = some (.cells cs t (0, 0)) → Below W.heap.size W w1 → wpList P ops Q rest (a.put o.dst (.slice (some ⟨g, 0, none⟩) n n)) w1) (hd : o.dst = some N := by rfl) (hgd : o.guard = none := by rfl)
    (hrun : (execOp a.eval o).run P W = .ok (.value (.slice (some ⟨W.heap.size, 0, none⟩) n n)) (W.alloc (.cells cs t (0, 0))) := by first | (go_simp; done) | (go_simp; rfl)) : wpList P ops Q (o :: rest) a W :=
  Kd.event_run hgd hrun (h _ rfl _ (blk_new W _) (below_alloc (Below.refl _ _) _))
set_option maxHeartbeats 8000000 in
set_option maxRecDepth 100000 in
theorem impl_AddPoly.grow (n : Int) (w : World) (h0 : 0 ≤ n) (hn : n < 4398046511104) :
    Calls Try.prog 83 #[.slice none 0 0, .int .i64 n] w fun e w' => ∃ v : Value, e = .returned v ∧ Kd.R k51 51 w' w.heap.size (fun _ => True) v [] ∧ Below w.heap.size w w' := by
  have HB := Aside0.mk (Below.refl w.heap.size w)
  have e1 : wrap64 (((0 : Nat) : Int) - ((0 : Nat) : Int)) = 0 := by simp [wrap64]
  have e2 : wrap64 (n - 0) = n := by unfold wrap64; omega
  have e2' : wrap64 n = n := by unfold wrap64; omega
  have e0 : decide (n < 0) = false := decide_eq_false (by omega)
  by_cases hz : n = 0
  · subst hz
    go_enter Try.func83, Try.ntmps83
    go_wp2
    go_ret
    exact ⟨_, by first | rfl | (simp; done) | (simp [*]; done), Kd.R_nil _ _ _ _ _, HB.out⟩
  · have e3 : decide (0 < n) = true := decide_eq_true (by omega)
    obtain ⟨i0, hi0, hz0, hsz, hby⟩ := info_parts info51
    have hr : ∀ (ty : TypeId) (w : World), (Builtin.append_ #[25, 3] ty #[.slice none 0 0, .int .i64 n]).run Try.prog w = .ok (.slice (some ⟨w.heap.size, 0, none⟩) n.toNat (grownCap w n.toNat 0 51)) (w.drew.alloc (.cells (Builtin.zeroCells (.agg #[(.int .i64 0), (.int .i64 0), (.int .i64 0), (.int .i64 0)] : Value).cells n.toNat ++ Builtin.zeroCells (.agg #[(.int .i64 0), (.int .i64 0), (.int .i64 0), (.int .i64 0)] : Value).cells (grownCap w n.toNat 0 51 - n.toNat)) 51)) := by
      intro ty w
      have hx := Go.Lib.run_append_nil_zeros (P := Try.prog) w 25 3 ty 51 i0 (.agg #[(.int .i64 0), (.int .i64 0), (.int .i64 0), (.int .i64 0)] : Value) .i64 .i64 Try.underlying25 Try.underlying3 hi0 hz0 n.toNat (by omega) (by omega) (by omega) (by rw [hby]; omega)
      rw [Int.toNat_of_nonneg h0] at hx
      exact hx
    clear hz
    go_enter Try.func83, Try.ntmps83
    go_wp2_with ((with_reducible refine gate_builtin (b := .append) (xs := #[.tmp 20, .tmp 21]) rfl ?_); at_builtin; refine Go.Lib.wpList_append_run _ rfl _ _ _ _ rfl _ _ rfl rfl _ _ (hr _ _) ?_)
    go_ret
    refine ⟨_, by first | rfl | (simp; done) | (simp [*]; done), ⟨fun _ _ => trivial, [], ⟨rfl, .inr ⟨w.heap.size, grownCap w n.toNat 0 51, _, rfl, Nat.le_refl _, (by exact blk_drew (blk_new w _)), Nat.zero_le _, grownCap_le_maxLen w _ _ _ (by unfold maxLen; omega), ?_, by simp⟩⟩, Reps.none _ _⟩, by repeat (first | (with_reducible first | exact HB.out | apply below_alloc | apply pw_below_drewN | apply below_drew1) | exact HB.out)⟩
    have hge := grownCap_ge w n.toNat 0 51
    have hk : (k51).sz = 4 := rfl
    simp [Builtin.zeroCells, hk, Value.cells]
    omega
set_option maxHeartbeats 8000000 in
set_option maxRecDepth 100000 in
theorem impl_AddPoly.concat (g : Nat) (A1 : Option Addr) (c1 : Nat) (l1 : List S51) (A2 : Option Addr) (c2 : Nat) (l2 : List S51) (w : World) (hG : w.heap[g]? = some (.cells #[.slice A1 l1.length c1, .slice A2 l2.length c2] 25 (0, 0))) (hr1 : Kd.C k51 w A1 l1.length l1) (hr2 : Kd.C k51 w A2 l2.length l2) (hm : l1.length + l2.length < 4398046511104) :
    Calls Try.prog 54 #[.slice (some ⟨g, 0, none⟩) 2 2] w fun e w' => ∃ v : Value, e = .returned v ∧ Kd.R k51 51 w' w.heap.size (fun _ => True) v (l1 ++ l2) ∧ Below w.heap.size w w' := by
  have HB := Aside0.mk (Below.refl w.heap.size w)
  have HR1 := Aside0.mk hr1
  have HR2 := Aside0.mk hr2
  have BKG := Aside0.mk hG
  have LM := Aside0.mk hm
  have s0 : wrap64 (0 + (l1.length : Int)) = (l1.length : Int) := by unfold wrap64; omega
  have s0' : wrap64 (l1.length : Int) = (l1.length : Int) := by unfold wrap64; omega
  have s1 : wrap64 ((l1.length : Int) + (l2.length : Int)) = (l1.length : Int) + (l2.length : Int) := by unfold wrap64; omega
  have n0 : decide ((l1.length : Int) < 0) = false := decide_eq_false (by omega)
  have n1 : decide ((l1.length : Int) + (l2.length : Int) < 0) = false := decide_eq_false (by omega)
  clear hr1 hr2 hG hm
  go_enter Try.func54, Try.ntmps54
  go_wp2
  go_loopg [3, 11] 2 (fun kq v3 v11 w' => Aside0 ((kq = 2 ∧ v3 = .int .i64 0 ∧ v11 = .int .i64 0) ∨ (kq = 1 ∧ v3 = .int .i64 (l1.length : Int) ∧ v11 = .int .i64 1) ∨ (kq = 0 ∧ v3 = .int .i64 ((l1.length : Int) + (l2.length : Int)) ∧ v11 = .int .i64 2)) ∧ Aside0 (w'.heap[g]? = some (.cells #[.slice A1 l1.length c1, .slice A2 l2.length c2] 25 (0, 0))) ∧ Aside0 (Below w.heap.size w w'))
  case atStart => exact ⟨⟨.inl ⟨rfl, rfl, rfl⟩⟩, ⟨zq1 BKG⟩, ⟨(zb0 HB)⟩⟩
  case round =>
    clear HB BKG
    obtain ⟨⟨hx⟩, BKG, HB⟩ := hrel
    have hd0 : wr.cell? ⟨g, 0, none⟩ = some (.slice A1 l1.length c1) := zc BKG 0
    have hd1 : wr.cell? ⟨g, 1, none⟩ = some (.slice A2 l2.length c2) := zc BKG 1
    rcases hx with ⟨rfl, rfl, rfl⟩ | ⟨rfl, rfl, rfl⟩ | ⟨rfl, rfl, rfl⟩
    · go_wp2
      go_roundg 1
      case measure => decide
      case rel => exact ⟨⟨.inr (.inl ⟨rfl, by first | rfl | (simp; done) | (simp [*]; done), by first | rfl | (simp; done) | (simp [*]; done)⟩)⟩, ⟨zq1 BKG⟩, ⟨(zb0 HB)⟩⟩
    · go_wp2
      go_roundg 0
      case measure => decide
      case rel => exact ⟨⟨.inr (.inr ⟨rfl, by first | rfl | (simp; done) | (simp [*]; done), by first | rfl | (simp; done) | (simp [*]; done)⟩)⟩, ⟨zq1 BKG⟩, ⟨(zb0 HB)⟩⟩
    · go_wp2_with (go_at_call 83; refine (impl_AddPoly.grow ((l1.length : Int) + (l2.length : Int)) _ (by omega) (by have := LM.out; omega)).mono ?_; rintro e w5 ⟨v0, rfl, ho, hb⟩; have HO := Aside0.mk (Kd.R_lower ho (below_size (zb0 HB))); replace BKG := Aside0.mk (zbb BKG hb); replace HB := Aside0.mk (below_step (zb0 HB) hb); clear ho hb)
      go_loopg [6, 27] 2 (fun kq v6 v27 w' => ∃ (xs : List S51), Aside0 ((kq = 2 ∧ v27 = .int .i64 0 ∧ [] = xs) ∨ (kq = 1 ∧ v27 = .int .i64 1 ∧ l1 = xs) ∨ (kq = 0 ∧ v27 = .int .i64 2 ∧ l1 ++ l2 = xs)) ∧ Aside0 (w'.heap[g]? = some (.cells #[.slice A1 l1.length c1, .slice A2 l2.length c2] 25 (0, 0))) ∧ Aside0 (Kd.R k51 51 w' w.heap.size (fun _ => True) v6 xs) ∧ Aside0 (Below w.heap.size w w'))
      case atStart => exact ⟨[], ⟨.inl ⟨rfl, rfl, rfl⟩⟩, ⟨zq1 BKG⟩, ⟨zq3 HO⟩, ⟨(zb0 HB)⟩⟩
      case round =>
        clear hd0 hd1 HB BKG HO
        obtain ⟨xs, ⟨hx⟩, BKG, HO, HB⟩ := hrel
        have hd0 : wr.cell? ⟨g, 0, none⟩ = some (.slice A1 l1.length c1) := zc BKG 0
        have hd1 : wr.cell? ⟨g, 1, none⟩ = some (.slice A2 l2.length c2) := zc BKG 1
        rcases hx with ⟨rfl, rfl, rfl⟩ | ⟨rfl, rfl, rfl⟩ | ⟨rfl, rfl, rfl⟩
        · go_wp2_with (((with_reducible refine gate_builtin (b := .append) (xs := #[.tmp 31, .tmp 32]) rfl ?_); at_builtin; refine Kd.R_append_rows k51 (w0 := w) w.heap.size rfl (.tmp 31) (.tmp 32) 25 51 (.agg #[(.int .i64 0), (.int .i64 0), (.int .i64 0), (.int .i64 0)]) 32 rfl Try.underlying25 info51 rfl (by decide) (by omega) _ [] l1 _ _ _ (fun _ => True) (fun _ => False) rfl rfl ?aO ?aR (fun _ _ h => h) (fun _ h => h.elim) ?aF ?aB ?aS ?aL ?_; (case aR => exact (Kd.C_below HR1.out (zb0 HB))); (case aB => exact (zb0 HB)); (case aF => exact (fun _ _ => trivial)); (case aO => exact (zq3 HO)); (case aS => exact (below_size (zb0 HB))); (case aL => have := LM.out; simp; omega); intro v7 w7 ho hb hg hat; have HO7 := Aside0.mk ho; have BX := Aside0.mk (blk_grown (zq1 BKG) hg (Kd.R_ne HO.out BKG.out (by decide))); replace HB := Aside0.mk hb; clear ho hb hg hat BKG; have BKG := BX; clear BX))
          go_roundg 1
          case measure => decide
          case rel => exact ⟨l1, ⟨.inr (.inl ⟨rfl, by first | rfl | (simp; done) | (simp [*]; done), rfl⟩)⟩, ⟨zq1 BKG⟩, ⟨zq3 HO7⟩, ⟨(zb0 HB)⟩⟩
        · go_wp2_with (((with_reducible refine gate_builtin (b := .append) (xs := #[.tmp 31, .tmp 32]) rfl ?_); at_builtin; refine Kd.R_append_rows k51 (w0 := w) w.heap.size rfl (.tmp 31) (.tmp 32) 25 51 (.agg #[(.int .i64 0), (.int .i64 0), (.int .i64 0), (.int .i64 0)]) 32 rfl Try.underlying25 info51 rfl (by decide) (by omega) _ l1 l2 _ _ _ (fun _ => True) (fun _ => False) rfl rfl ?aO ?aR (fun _ _ h => h) (fun _ h => h.elim) ?aF ?aB ?aS ?aL ?_; (case aR => exact (Kd.C_below HR2.out (zb0 HB))); (case aB => exact (zb0 HB)); (case aF => exact (fun _ _ => trivial)); (case aO => exact (zq3 HO)); (case aS => exact (below_size (zb0 HB))); (case aL => have := LM.out; simp; omega); intro v7 w7 ho hb hg hat; have HO7 := Aside0.mk ho; have BX := Aside0.mk (blk_grown (zq1 BKG) hg (Kd.R_ne HO.out BKG.out (by decide))); replace HB := Aside0.mk hb; clear ho hb hg hat BKG; have BKG := BX; clear BX))
          go_roundg 0
          case measure => decide
          case rel => exact ⟨l1 ++ l2, ⟨.inr (.inr ⟨rfl, by first | rfl | (simp; done) | (simp [*]; done), rfl⟩)⟩, ⟨zq1 BKG⟩, ⟨zq3 HO7⟩, ⟨(zb0 HB)⟩⟩
        · go_wp2
          go_ret
          exact ⟨_, by first | rfl | (simp; done) | (simp [*]; done), zq3 HO, (zb0 HB)⟩
set_option maxHeartbeats 8000000 in
set_option maxRecDepth 100000 in
theorem impl_AddPoly.calls (k : Nat) (A0 : Option Addr) (c0 : Nat) (l0 : List (S51)) (A1 : Option Addr) (c1 : Nat) (l1 : List (S51)) (r1 : List (S51)) (r2 : Bool) (w : World) (hr0 : Kd.C k51 w A0 l0.length l0) (hc0 : l0.length ≤ c0) (hr1 : Kd.C k51 w A1 l1.length l1) (hc1 : l1.length ≤ c1) (h : impl_AddPoly.f k l0 l1 = some (r1, r2)) :
    Calls Try.prog 18 #[.slice A0 l0.length c0, .slice A1 l1.length c1] w fun e w' => ∃ v0_ : Value, e = .returned (.tuple #[v0_, .bool r2]) ∧ Kd.R k51 51 w' w.heap.size (fun _ => True) v0_ r1 ∧ Below w.heap.size w w' := by
  have HR0 := Aside0.mk hr0
  have HC0 := Aside0.mk hc0
  clear hr0 hc0
  have HR1 := Aside0.mk hr1
  have HC1 := Aside0.mk hc1
  clear hr1 hc1
  have HB := Aside0.mk (Below.refl w.heap.size w)
  have H : ((impl_isPoly.f k l0).bind fun t314 => (if t314 = true then ((impl_isPoly.f k l1).bind fun t315 => (impl_AddPoly.j0 k l0 l1 (!t315))) else (impl_AddPoly.j0 k l0 l1 true))) = some (r1, r2) := h
  clear h
  have HC3 := Aside0.mk H
  clear H
  go_enter Try.func18, Try.ntmps18
  go_upto_region 1 with (fail)
  go_cut [13] (fun v13 wc => ∃ (kq : Nat) (x13_2 : Bool), v13 = .bool x13_2 ∧ Aside0 (impl_AddPoly.j0 kq l0 l1 x13_2 = some (r1, r2)) ∧ Aside0 (kq ≤ k) ∧ Aside0 (Below w.heap.size w wc))
  case first =>
    have H := HC3.out
    clear HC3
    replace H := Option.bind_eq_some_iff.mp H
    obtain ⟨t314, A40, H⟩ := H
    replace H : (if t314 = true then ((impl_isPoly.f k l1).bind fun t315 => (impl_AddPoly.j0 k l0 l1 (!t315))) else (impl_AddPoly.j0 k l0 l1 true)) = some (r1, r2) := H
    have A4 := Aside0.mk A40
    clear A40
    by_cases c5 : t314 = true
    · subst c5
      have H1 : ((impl_isPoly.f k l1).bind fun t315 => (impl_AddPoly.j0 k l0 l1 (!t315))) = some (r1, r2) := by rw [if_pos rfl] at H; exact H
      clear H
      have H := H1
      clear H1
      replace H := Option.bind_eq_some_iff.mp H
      obtain ⟨t315, A60, H⟩ := H
      replace H : (impl_AddPoly.j0 k l0 l1 (!t315)) = some (r1, r2) := H
      have A6 := Aside0.mk A60
      clear A60
      have H' := Aside0.mk H
      clear H
      go_wp2_with (first | ((with_reducible refine gate_callee (f := 40) rfl ?_); refine goesL_ (some 7) rfl rfl Try.func40 (by kernel_rfl) rfl #[.slice A0 l0.length c0] rfl (by (try simp only [List.map_toArray, List.map_cons, List.map_nil]); first | done | rfl | (simp only [List.length_drop, List.length_take]; rfl)) ?_; (with_reducible refine (impl_isPoly.calls k _ _ l0 true _ ?side1 ?side2 A4.out).mono ?_); (case side1 => repeat (first | exact (Kd.C_below HR0.out HB.out) | (with_reducible refine Kd.C_alloc ?_ _) | (with_reducible refine Kd.C_drewN ?_ _) | (with_reducible refine Kd.C_drew ?_))); (case side2 => exact HC0.out); rintro e w7 ⟨rfl, hb⟩; refine ⟨_, rfl, ?_⟩; have n0_ := Aside0.mk (below_step (by repeat (first | (with_reducible first | exact HB.out | apply below_alloc | apply pw_below_drewN | apply below_drew1) | exact HB.out)) hb); clear HB; have HB := n0_; clear n0_; (try clear hb); (try clear hb2); (try clear hk); (try clear hi)) | (go_at_call 40; (with_reducible refine (impl_isPoly.calls k _ _ l1 t315 _ ?side1 ?side2 A6.out).mono ?_); (case side1 => repeat (first | exact (Kd.C_below HR1.out HB.out) | (with_reducible refine Kd.C_alloc ?_ _) | (with_reducible refine Kd.C_drewN ?_ _) | (with_reducible refine Kd.C_drew ?_))); (case side2 => exact HC1.out); rintro e w8 ⟨rfl, hb⟩; have n0_ := Aside0.mk (below_step (by repeat (first | (with_reducible first | exact HB.out | apply below_alloc | apply pw_below_drewN | apply below_drew1) | exact HB.out)) hb); clear HB; have HB := n0_; clear n0_; (try clear hb); (try clear hb2); (try clear hk); (try clear hi)))
      go_meet
      case rel => exact ⟨_, (!t315), (by first | rfl | (simp; done) | (simp [*]; done)), H', ⟨by first | omega | exact Nat.le_refl _⟩, ⟨by repeat (first | (with_reducible first | exact HB.out | apply below_alloc | apply pw_below_drewN | apply below_drew1) | exact HB.out)⟩⟩
    · replace c5 := Bool.eq_false_iff.mpr c5
      subst c5
      have H1 : (impl_AddPoly.j0 k l0 l1 true) = some (r1, r2) := by rw [if_neg (show ¬ (false = true) by decide)] at H; exact H
      clear H
      have H := H1
      clear H1
      have H' := Aside0.mk H
      clear H
      go_wp2_with (first | ((with_reducible refine gate_callee (f := 40) rfl ?_); refine goesL_ (some 7) rfl rfl Try.func40 (by kernel_rfl) rfl #[.slice A0 l0.length c0] rfl (by (try simp only [List.map_toArray, List.map_cons, List.map_nil]); first | done | rfl | (simp only [List.length_drop, List.length_take]; rfl)) ?_; (with_reducible refine (impl_isPoly.calls k _ _ l0 false _ ?side1 ?side2 A4.out).mono ?_); (case side1 => repeat (first | exact (Kd.C_below HR0.out HB.out) | (with_reducible refine Kd.C_alloc ?_ _) | (with_reducible refine Kd.C_drewN ?_ _) | (with_reducible refine Kd.C_drew ?_))); (case side2 => exact HC0.out); rintro e w9 ⟨rfl, hb⟩; refine ⟨_, rfl, ?_⟩; have n0_ := Aside0.mk (below_step (by repeat (first | (with_reducible first | exact HB.out | apply below_alloc | apply pw_below_drewN | apply below_drew1) | exact HB.out)) hb); clear HB; have HB := n0_; clear n0_; (try clear hb); (try clear hb2); (try clear hk); (try clear hi)))
      go_meet
      case rel => exact ⟨_, (true), (by first | rfl | (simp; done) | (simp [*]; done)), H', ⟨by first | omega | exact Nat.le_refl _⟩, ⟨by repeat (first | (with_reducible first | exact HB.out | apply below_alloc | apply pw_below_drewN | apply below_drew1) | exact HB.out)⟩⟩
  case rest =>
    clear HC3
    try clear c1
    try clear p2
    try clear c4
    try clear c5
    obtain ⟨kq, x13_2, rfl, HA, HJ2, HB⟩ := hcut
    cases kq with
    | zero => exact absurd HA.out (by simp [impl_AddPoly.j0])
    | succ kj2 =>
      have H := HA.out
      clear HA
      simp only [impl_AddPoly.j0] at H
      by_cases c10 : x13_2 = true
      · subst c10
        have H1 : (some (([] : List (S51)), false)) = some (r1, r2) := by rw [if_pos rfl] at H; exact H
        clear H
        have H := H1
        clear H1
        simp only [Option.some.injEq, Prod.mk.injEq] at H
        obtain ⟨rfl, rfl⟩ := H
        go_wp2
        go_ret2
        exact ⟨_, by first | rfl | (simp [errW_none, errW_some] <;> rfl) | (simp [*, errW_none, errW_some] <;> rfl), by first | exact Kd.R_nil _ _ _ _ _ | exact Kd.N_nil _ _ _ _ _ | exact Kd.V_nil _ _ _ _ _ | exact Kd.Q_nil _ _ _ _ _ | exact Kd.S_nil _ _ _ _ _, by repeat (first | (with_reducible first | exact HB.out | apply below_alloc | apply pw_below_drewN | apply below_drew1) | exact HB.out)⟩
      · replace c10 := Bool.eq_false_iff.mpr c10
        subst c10
        have H1 : ((impl_AddPoly.cat l0 l1).bind fun t315 => ((impl_collect.f t315).bind fun t316 => ((impl_polyResult.f kj2 t316).bind fun bt319 => (some (bt319.1, bt319.2))))) = some (r1, r2) := by rw [if_neg (show ¬ (false = true) by decide)] at H; exact H
        clear H
        have H := H1
        clear H1
        replace H := Option.bind_eq_some_iff.mp H
        obtain ⟨t315, A100, H⟩ := H
        replace H : ((impl_collect.f t315).bind fun t316 => ((impl_polyResult.f kj2 t316).bind fun bt319 => (some (bt319.1, bt319.2)))) = some (r1, r2) := H
        obtain ⟨hm10, rfl⟩ := impl_AddPoly.cat_eq A100
        have LM10 := Aside0.mk hm10
        clear A100 hm10
        obtain ⟨y315, hy315⟩ : ∃ y_ : List (S51), y_ = l0 ++ l1 := ⟨_, rfl⟩
        rw [← hy315] at H
        have Ny315 := Aside0.mk hy315
        clear hy315
        replace H := Option.bind_eq_some_iff.mp H
        obtain ⟨t316, A110, H⟩ := H
        replace H : ((impl_polyResult.f kj2 t316).bind fun bt319 => (some (bt319.1, bt319.2))) = some (r1, r2) := H
        have A11 := Aside0.mk A110
        clear A110
        replace H := Option.bind_eq_some_iff.mp H
        obtain ⟨⟨t319, t322⟩, A120, H⟩ := H
        replace H : (some (t319, t322)) = some (r1, r2) := H
        have A12 := Aside0.mk A120
        clear A120
        simp only [Option.some.injEq, Prod.mk.injEq] at H
        obtain ⟨rfl, rfl⟩ := H
        go_wp2_with (first | ((with_reducible refine gate_dst (N := 16) rfl ?_); refine impl_AddPoly.zbs (N := 16) (cs := #[.slice A0 l0.length c0, .slice A1 l1.length c1]) (t := 25) (n := 2) ?_; intro gt hg wt hbox hb; have BK16 := Aside0.mk hbox; have n1_ := Aside0.mk (below_step (by repeat (first | (with_reducible first | exact HB.out | apply below_alloc | apply pw_below_drewN | apply below_drew1) | exact HB.out)) hb); clear HB; have HB := n1_; clear n1_ hbox hb; (try clear hg)) | (go_at_call 54; (with_reducible refine (impl_AddPoly.concat gt _ c0 l0 _ c1 l1 _ BK16.out ?side1 ?side3 LM10.out).mono ?_); (case side1 => exact (Kd.C_below HR0.out HB.out)); (case side3 => exact (Kd.C_below HR1.out HB.out)); rintro e w12 ⟨v315, rfl, ho0, hb⟩; rw [← Ny315.out] at ho0; have n0_ := Aside0.mk (Kd.R_lower ho0 (below_size (by repeat (first | (with_reducible first | exact HB.out | apply below_alloc | apply pw_below_drewN | apply below_drew1) | exact HB.out)))); have n1_ := Aside0.mk (below_step (by repeat (first | (with_reducible first | exact HB.out | apply below_alloc | apply pw_below_drewN | apply below_drew1) | exact HB.out)) hb); clear HB; have HO315 := n0_; have HB := n1_; clear n0_ n1_ BK16; (try clear hb); (try clear ho0); obtain ⟨Ao13, co13, eo13⟩ := Kd.R_slice HO315.out; subst eo13) | (go_at_call 47; (with_reducible refine (impl_collect.calls _ _ y315 t316 _ ?side1 ?side2 A11.out).mono ?_); (case side1 => exact (Kd.R_reads' HO315.out).2.2); (case side2 => exact impl_AddPoly.cap HO315.out); rintro e w13 ⟨v317, rfl, ho0, hb⟩; have n0_ := Aside0.mk (Kd.R_lower ho0 (below_size (by repeat (first | (with_reducible first | exact HB.out | apply below_alloc | apply pw_below_drewN | apply below_drew1) | exact HB.out)))); have n1_ := Aside0.mk (below_step (by repeat (first | (with_reducible first | exact HB.out | apply below_alloc | apply pw_below_drewN | apply below_drew1) | exact HB.out)) hb); clear HB; have HO318 := n0_; have HB := n1_; clear n0_ n1_; (try clear hb); (try clear hb2); (try clear hk); (try clear hi); (try clear ho0); (try clear HO315); obtain ⟨Ao14, co14, eo14⟩ := Kd.R_slice HO318.out; subst eo14) | (go_at_call 46; (with_reducible refine (impl_polyResult.calls kj2 (fun k_ => some k_ = (.slice Ao14 t316.length co14 : Value).ownBlock) (.slice Ao14 t316.length co14) t316 t319 t322 w _ ?side1 ?side2 A12.out).mono ?_); (case side1 => repeat (first | (with_reducible first | exact HB.out | apply below_alloc | apply pw_below_drewN | apply below_drew1) | exact HB.out)); (case side2 => exact Kd.R_tight rfl HO318.out); rintro e w15 ⟨v320, rfl, ho0, hb, hkp⟩; have n0_ := Aside0.mk (Kd.R_mono (ok' := fun k_ => True) ho0 (fun k_ hk_ => trivial)); have n1_ := Aside0.mk (hb); clear HB; clear HO318; have HO321 := n0_; have HB := n1_; clear n0_ n1_; (try clear hb); (try clear hkp); (try clear ho0)))
        go_ret2
        exact ⟨_, by first | rfl | (simp [errW_none, errW_some] <;> rfl) | (simp [*, errW_none, errW_some] <;> rfl), by (with_reducible repeat (first | apply Kd.R_alloc | apply Kd.R_drewN | apply Kd.R_drew)); exact HO321.out, by repeat (first | (with_reducible first | exact HB.out | apply below_alloc | apply pw_below_drewN | apply below_drew1) | exact HB.out)⟩
/-! ### spec_AddPoly: function 19 -/
set_option maxHeartbeats 8000000 in
set_option maxRecDepth 100000 in
theorem spec_AddPoly.calls (k : Nat) (A0 : Option Addr) (c0 : Nat) (l0 : List (S51)) (A1 : Option Addr) (c1 : Nat) (l1 : List (S51)) (r1 : List (S51)) (r2 : Bool) (w : World) (hr0 : Kd.C k51 w A0 l0.length l0) (hc0 : l0.length ≤ c0) (hr1 : Kd.C k51 w A1 l1.length l1) (hc1 : l1.length ≤ c1) (h : spec_AddPoly.f k l0 l1 = some (r1, r2)) :
  Calls Try.prog 19 #[.slice A0 l0.length c0, .slice A1 l1.length c1] w fun e w' => ∃ v0_ : Value, e = .returned (.tuple #[v0_, .bool r2]) ∧ Kd.R k51 51 w' w.heap.size (fun _ => True) v0_ r1 ∧ Below w.heap.size w w' := by
 have HR0 := Aside0.mk hr0
 have HC0 := Aside0.mk hc0
 clear hr0 hc0
 have HR1 := Aside0.mk hr1
 have HC1 := Aside0.mk hc1
 clear hr1 hc1
 have HB := Aside0.mk (Below.refl w.heap.size w)
 have H : ((spec_poGood.f k l0).bind fun t365 => (if t365 = true then ((spec_poGood.f k l1).bind fun t366 => (if t366 = true then ((spec_poAdd.f k l0 l1).bind fun bt367 => (some (bt367.1, bt367.2))) else (some (([] : List (S51)), false)))) else (some (([] : List (S51)), false)))) = some (r1, r2) := h
 clear h
 replace H := Option.bind_eq_some_iff.mp H
 obtain ⟨t365, A30, H⟩ := H
 replace H : (if t365 = true then ((spec_poGood.f k l1).bind fun t366 => (if t366 = true then ((spec_poAdd.f k l0 l1).bind fun bt367 => (some (bt367.1, bt367.2))) else (some (([] : List (S51)), false)))) else (some (([] : List (S51)), false))) = some (r1, r2) := H
 have A3 := Aside0.mk A30
 clear A30
 by_cases c4 : t365 = true
 ·
  subst c4
  have H1 : ((spec_poGood.f k l1).bind fun t366 => (if t366 = true then ((spec_poAdd.f k l0 l1).bind fun bt367 => (some (bt367.1, bt367.2))) else (some (([] : List (S51)), false)))) = some (r1, r2) := by rw [if_pos rfl] at H; exact H
  clear H
  have H := H1
  clear H1
  replace H := Option.bind_eq_some_iff.mp H
  obtain ⟨t366, A50, H⟩ := H
  replace H : (if t366 = true then ((spec_poAdd.f k l0 l1).bind fun bt367 => (some (bt367.1, bt367.2))) else (some (([] : List (S51)), false))) = some (r1, r2) := H
  have A5 := Aside0.mk A50
  clear A50
  by_cases c6 : t366 = true
  ·
   subst c6
   have H1 : ((spec_poAdd.f k l0 l1).bind fun bt367 => (some (bt367.1, bt367.2))) = some (r1, r2) := by rw [if_pos rfl] at H; exact H
   clear H
   have H := H1
   clear H1
   replace H := Option.bind_eq_some_iff.mp H
   obtain ⟨⟨t367, t368⟩, A70, H⟩ := H
   replace H : (some (t367, t368)) = some (r1, r2) := H
   have A7 := Aside0.mk A70
   clear A70
   simp only [Option.some.injEq, Prod.mk.injEq] at H
   obtain ⟨rfl, rfl⟩ := H
   go_enter Try.func19, Try.ntmps19
   go_wp2_with (first | ((with_reducible refine gate_callee (f := 33) rfl ?_); refine goesL_ (some 7) rfl rfl Try.func33 (by kernel_rfl) rfl #[.slice A0 l0.length c0] rfl zq6 ?_; (with_reducible refine (spec_poGood.calls k _ _ l0 true _ ?side1 ?side2 A3.out).mono ?_); (case side1 => repeat (first | exact HR0.out | (with_reducible refine Kd.C_alloc ?_ _) | (with_reducible refine Kd.C_drewN ?_ _) | (with_reducible refine Kd.C_drew ?_))); (case side2 => exact HC0.out); rintro e w8 ⟨rfl, hb⟩; refine ⟨_, rfl, ?_⟩; replace HB := Aside0.mk (below_step (zb0 HB) hb); (try clear hb); (try clear hb2); (try clear hk); (try clear hi)) | (go_at_call 33; (with_reducible refine (spec_poGood.calls k _ _ l1 true _ ?side1 ?side2 A5.out).mono ?_); (case side1 => repeat (first | exact (Kd.C_below HR1.out HB.out) | (with_reducible refine Kd.C_alloc ?_ _) | (with_reducible refine Kd.C_drewN ?_ _) | (with_reducible refine Kd.C_drew ?_))); (case side2 => exact HC1.out); rintro e w9 ⟨rfl, hb⟩; replace HB := Aside0.mk (below_step (zb0 HB) hb); (try clear hb); (try clear hb2); (try clear hk); (try clear hi)) | ((with_reducible refine gate_callee (f := 55) rfl ?_); refine goesL_ (some 16) rfl rfl Try.func55 (by kernel_rfl) rfl #[.slice A0 l0.length c0, .slice A1 l1.length c1] rfl zq6 ?_; (with_reducible refine (spec_poAdd.calls k _ _ l0 _ _ l1 t367 t368 _ ?side1 ?side2 ?side3 ?side4 A7.out).mono ?_); (case side1 => repeat (first | exact (Kd.C_below HR0.out HB.out) | (with_reducible refine Kd.C_alloc ?_ _) | (with_reducible refine Kd.C_drewN ?_ _) | (with_reducible refine Kd.C_drew ?_))); (case side2 => exact HC0.out); (case side3 => repeat (first | exact (Kd.C_below HR1.out HB.out) | (with_reducible refine Kd.C_alloc ?_ _) | (with_reducible refine Kd.C_drewN ?_ _) | (with_reducible refine Kd.C_drew ?_))); (case side4 => exact HC1.out); rintro e w10 ⟨v369, rfl, ho0, hb⟩; refine ⟨_, rfl, ?_⟩; have HO370 := Aside0.mk (Kd.R_lower ho0 (below_size (zb0 HB))); replace HB := Aside0.mk (below_step (zb0 HB) hb); (try clear hb); (try clear hb2); (try clear hk); (try clear hi); (try clear ho0)))
   go_ret2
   exact ⟨_, by first | rfl | (simp [errW_none, errW_some] <;> rfl) | (simp [*, errW_none, errW_some] <;> rfl), by (with_reducible repeat (first | apply Kd.R_alloc | apply Kd.R_drewN | apply Kd.R_drew)); exact HO370.out, (zb0 HB)⟩
  ·
   replace c6 := Bool.eq_false_iff.mpr c6
   subst c6
   have H1 : (some (([] : List (S51)), false)) = some (r1, r2) := by rw [if_neg (show ¬ (false = true) by decide)] at H; exact H
   clear H
   have H := H1
   clear H1
   simp only [Option.some.injEq, Prod.mk.injEq] at H
   obtain ⟨rfl, rfl⟩ := H
   go_enter Try.func19, Try.ntmps19
   go_wp2_with (first | ((with_reducible refine gate_callee (f := 33) rfl ?_); refine goesL_ (some 7) rfl rfl Try.func33 (by kernel_rfl) rfl #[.slice A0 l0.length c0] rfl zq6 ?_; (with_reducible refine (spec_poGood.calls k _ _ l0 true _ ?side1 ?side2 A3.out).mono ?_); (case side1 => repeat (first | exact HR0.out | (with_reducible refine Kd.C_alloc ?_ _) | (with_reducible refine Kd.C_drewN ?_ _) | (with_reducible refine Kd.C_drew ?_))); (case side2 => exact HC0.out); rintro e w11 ⟨rfl, hb⟩; refine ⟨_, rfl, ?_⟩; replace HB := Aside0.mk (below_step (zb0 HB) hb); (try clear hb); (try clear hb2); (try clear hk); (try clear hi)) | (go_at_call 33; (with_reducible refine (spec_poGood.calls k _ _ l1 false _ ?side1 ?side2 A5.out).mono ?_); (case side1 => repeat (first | exact (Kd.C_below HR1.out HB.out) | (with_reducible refine Kd.C_alloc ?_ _) | (with_reducible refine Kd.C_drewN ?_ _) | (with_reducible refine Kd.C_drew ?_))); (case side2 => exact HC1.out); rintro e w12 ⟨rfl, hb⟩; replace HB := Aside0.mk (below_step (zb0 HB) hb); (try clear hb); (try clear hb2); (try clear hk); (try clear hi)))
   go_ret2
   exact ⟨_, by first | rfl | (simp [errW_none, errW_some] <;> rfl) | (simp [*, errW_none, errW_some] <;> rfl), by first | exact Kd.R_nil _ _ _ _ _ | exact Kd.N_nil _ _ _ _ _ | exact Kd.V_nil _ _ _ _ _ | exact Kd.Q_nil _ _ _ _ _ | exact Kd.S_nil _ _ _ _ _, (zb0 HB)⟩
 ·
  replace c4 := Bool.eq_false_iff.mpr c4
  subst c4
  have H1 : (some (([] : List (S51)), false)) = some (r1, r2) := by rw [if_neg (show ¬ (false = true) by decide)] at H; exact H
  clear H
  have H := H1
  clear H1
  simp only [Option.some.injEq, Prod.mk.injEq] at H
  obtain ⟨rfl, rfl⟩ := H
  go_enter Try.func19, Try.ntmps19
  go_wp2_with (first | ((with_reducible refine gate_callee (f := 33) rfl ?_); refine goesL_ (some 7) rfl rfl Try.func33 (by kernel_rfl) rfl #[.slice A0 l0.length c0] rfl zq6 ?_; (with_reducible refine (spec_poGood.calls k _ _ l0 false _ ?side1 ?side2 A3.out).mono ?_); (case side1 => repeat (first | exact HR0.out | (with_reducible refine Kd.C_alloc ?_ _) | (with_reducible refine Kd.C_drewN ?_ _) | (with_reducible refine Kd.C_drew ?_))); (case side2 => exact HC0.out); rintro e w13 ⟨rfl, hb⟩; refine ⟨_, rfl, ?_⟩; replace HB := Aside0.mk (below_step (zb0 HB) hb); (try clear hb); (try clear hb2); (try clear hk); (try clear hi)))
  go_ret2
  exact ⟨_, by first | rfl | (simp [errW_none, errW_some] <;> rfl) | (simp [*, errW_none, errW_some] <;> rfl), by first | exact Kd.R_nil _ _ _ _ _ | exact Kd.N_nil _ _ _ _ _ | exact Kd.V_nil _ _ _ _ _ | exact Kd.Q_nil _ _ _ _ _ | exact Kd.S_nil _ _ _ _ _, (zb0 HB)⟩
/-! ### impl_multiplyTerms: function 56 -/
set_option maxHeartbeats 8000000 in
set_option maxRecDepth 100000 in
theorem impl_multiplyTerms.calls (k : Nat) (A0 : Option Addr) (c0 : Nat) (l0 : List (S51)) (A1 : Option Addr) (c1 : Nat) (l1 : List (S51)) (r : List (S51)) (w : World) (hr0 : Kd.C k51 w A0 l0.length l0) (hc0 : l0.length ≤ c0) (hr1 : Kd.C k51 w A1 l1.length l1) (hc1 : l1.length ≤ c1) (h : impl_multiplyTerms.f k l0 l1 = some r) :
  Calls Try.prog 56 #[.slice A0 l0.length c0, .slice A1 l1.length c1] w fun e w' => ∃ v0_ : Value, e = .returned (v0_) ∧ Kd.R k51 51 w' w.heap.size (fun _ => True) v0_ r ∧ Below w.heap.size w w' := by
 have hu51 := Try.underlying51
 have HR0 := Aside0.mk hr0
 have HC0 := Aside0.mk hc0
 clear hr0 hc0
 have HR1 := Aside0.mk hr1
 have HC1 := Aside0.mk hc1
 clear hr1 hc1
 have HB := Aside0.mk (Below.refl w.heap.size w)
 have H : (impl_multiplyTerms.l0 k l1 ([] : List (S51)) l0 (l0.length : Int) 0) = some r := h
 clear h
 have H' := Aside0.mk H
 clear H
 go_enter Try.func56, Try.ntmps56
 go_wp2
 go_loopg [5, 12] k (fun kq v5 v12 w' => ∃ (x5_1 : List (S51)) (x12_1 : Int), v12 = .int .i64 x12_1 ∧ Aside0 (impl_multiplyTerms.l0 kq l1 x5_1 l0 (l0.length : Int) x12_1 = some r) ∧ Aside0 (kq ≤ k) ∧ Aside0 (Kd.R k51 51 w' w.heap.size (fun _ => True) v5 x5_1) ∧ Aside0 (Below w.heap.size w w'))
 case atStart => exact ⟨(([] : List (S51))), (0), (by first | rfl | (simp; done) | (simp [*]; done)), H', ⟨Nat.le_refl _⟩, ⟨by first | exact Kd.R_nil _ _ _ _ _ | exact Kd.N_nil _ _ _ _ _ | exact Kd.V_nil _ _ _ _ _ | exact Kd.Q_nil _ _ _ _ _ | exact Kd.S_nil _ _ _ _ _⟩, ⟨(zb0 HB)⟩⟩
 case round =>
  clear H'
  try clear c1
  try clear p2
  obtain ⟨x5_1, x12_1, rfl, HA, HK1, HO_5, HB⟩ := hrel
  cases gk with
  | zero => exact absurd HA.out (by simp [impl_multiplyTerms.l0])
  | succ k1 =>
   have H := HA.out
   clear HA
   simp only [impl_multiplyTerms.l0] at H
   by_cases c3 : x12_1 < (l0.length : Int)
   ·
    rw [if_pos c3] at H
    have c3b0 : decide (x12_1 < (l0.length : Int)) = true := decide_eq_true c3
    clear c3
    by_cases c4 : 0 ≤ x12_1
    ·
     rw [if_pos c4] at H
     have c4b0 : decide (0 ≤ x12_1) = true := decide_eq_true c4
     clear c4
     by_cases c5 : x12_1 < (l0.length : Int)
     ·
      rw [if_pos c5] at H
      have c5b0 : decide (x12_1 < (l0.length : Int)) = true := decide_eq_true c5
      clear c5
      have H' := Aside0.mk H
      clear H
      have p374 : 0 ≤ (x12_1 : Int) := of_decide_eq_true (by first | (with_reducible assumption) | assumption)
      have q374 : x12_1 < (l0.length : Int) := of_decide_eq_true (by first | (with_reducible assumption) | assumption)
      obtain ⟨ad374, e374, hx374_0, hx374_1, hx374_2, hx374_3⟩ := at_T51 HR0.out x12_1 p374 q374
      cases e374
      replace hx374_0 := pw_cell_below HB.out hx374_0
      replace hx374_1 := pw_cell_below HB.out hx374_1
      replace hx374_2 := pw_cell_below HB.out hx374_2
      replace hx374_3 := pw_cell_below HB.out hx374_3
      replace p374 := eq_true p374
      replace q374 := eq_true q374
      go_wp2_with (first | ((with_reducible refine gate_dst (N := 7) rfl ?_); refine zbe (N := 7) (cs := #[.int .i64 0, .int .i64 0, .int .i64 0, .int .i64 0]) (t := 51) ?_; intro gb375 hg w6 hbox hb; have BK375 := Aside0.mk (hbox); have GW375 := Aside0.mk (zge (zb0 HB) hg); have GE375 := GW375; replace HO_5 := Aside0.mk (Kd.R_below (Kd.R_elderB (zq3 HO_5) gb375 (Nat.le_of_eq hg.symm)) hb); replace HB := Aside0.mk (below_step (zb0 HB) hb); clear hb hbox hg; have hcz7_0 : w6.cell? ⟨gb375, 0, none⟩ = some (.int .i64 0) := zc BK375 0; have hcz7_1 : w6.cell? ⟨gb375, 1, none⟩ = some (.int .i64 0) := zc BK375 1; have hcz7_2 : w6.cell? ⟨gb375, 2, none⟩ = some (.int .i64 0) := zc BK375 2; have hcz7_3 : w6.cell? ⟨gb375, 3, none⟩ = some (.int .i64 0) := zc BK375 3; have hfz7_0 := blk_frozen BK375.out 0; have hfz7_1 := blk_frozen BK375.out 1; have hfz7_2 := blk_frozen BK375.out 2; have hfz7_3 := blk_frozen BK375.out 3))
      go_loopg [5, 18] k1 (fun kq v5 v18 w' => ∃ (x5_2 : List (S51)) (x18_2 : Int), v18 = .int .i64 x18_2 ∧ Aside0 (impl_multiplyTerms.l1 kq l1 x5_2 l0 (l0.length : Int) x12_1 l1 (l1.length : Int) x18_2 ((rd_T51 l0 x12_1).f0) ((rd_T51 l0 x12_1).f1) ((rd_T51 l0 x12_1).f2) ((rd_T51 l0 x12_1).f3) = some r) ∧ Aside0 (kq ≤ k1) ∧ Aside0 (Kd.R k51 51 w' w.heap.size (fun k_ => k_ ≠ gb375) v5 x5_2) ∧ Aside0 (w'.heap[gb375]? = some (.cells #[.int .i64 ((rd_T51 l0 x12_1).f0), .int .i64 ((rd_T51 l0 x12_1).f1), .int .i64 ((rd_T51 l0 x12_1).f2), .int .i64 ((rd_T51 l0 x12_1).f3)] 51 (0, 0))) ∧ Aside0 (Below w.heap.size w w'))
      case atStart => exact ⟨(x5_1), (0), (by first | rfl | (simp; done) | (simp [*]; done)), H', ⟨Nat.le_refl _⟩, ⟨by (with_reducible repeat (first | apply Kd.R_alloc | apply Kd.R_drewN | apply Kd.R_drew)); exact Kd.R_mono (Kd.R_far (p := ⟨gb375, 3, none⟩) (Kd.R_far (p := ⟨gb375, 2, none⟩) (Kd.R_far (p := ⟨gb375, 1, none⟩) (Kd.R_far (p := ⟨gb375, 0, none⟩) (Kd.R_mono HO_5.out (fun k_ hk => (⟨hk, hk.2⟩ : _ ∧ k_ ≠ gb375))) (fun _ hk => hk.2) (.int .i64 ((rd_T51 l0 x12_1).f0))) (fun _ hk => hk.2) (.int .i64 ((rd_T51 l0 x12_1).f1))) (fun _ hk => hk.2) (.int .i64 ((rd_T51 l0 x12_1).f2))) (fun _ hk => hk.2) (.int .i64 ((rd_T51 l0 x12_1).f3))) (fun _ hk => hk.1.2)⟩, ⟨by (with_reducible repeat (first | refine blk_drewN ?_ _ | refine blk_drew ?_ | refine blk_alloc ?_ _)); refine blk_put (cs := #[.int .i64 ((rd_T51 l0 x12_1).f0), .int .i64 ((rd_T51 l0 x12_1).f1), .int .i64 ((rd_T51 l0 x12_1).f2), .int .i64 0]) ?_ 3 _ rfl; (with_reducible repeat (first | refine blk_drewN ?_ _ | refine blk_drew ?_ | refine blk_alloc ?_ _)); refine blk_put (cs := #[.int .i64 ((rd_T51 l0 x12_1).f0), .int .i64 ((rd_T51 l0 x12_1).f1), .int .i64 0, .int .i64 0]) ?_ 2 _ rfl; (with_reducible repeat (first | refine blk_drewN ?_ _ | refine blk_drew ?_ | refine blk_alloc ?_ _)); refine blk_put (cs := #[.int .i64 ((rd_T51 l0 x12_1).f0), .int .i64 0, .int .i64 0, .int .i64 0]) ?_ 1 _ rfl; (with_reducible repeat (first | refine blk_drewN ?_ _ | refine blk_drew ?_ | refine blk_alloc ?_ _)); refine blk_put (cs := #[.int .i64 0, .int .i64 0, .int .i64 0, .int .i64 0]) ?_ 0 _ rfl; (with_reducible repeat (first | refine blk_drewN ?_ _ | refine blk_drew ?_ | refine blk_alloc ?_ _)); exact BK375.out⟩, ⟨(zb1 HB)⟩⟩
      case round =>
       clear H'
       try clear c1
       try clear p2
       try clear c3
       try clear c3b0
       try clear p3
       try clear q3
       try clear hx3
       try clear c4
       try clear c4b0
       try clear c5
       try clear c5b0
       try clear hcz7_0
       try clear hcz7_1
       try clear hcz7_2
       try clear hcz7_3
       try clear hfz7_0
       try clear hfz7_1
       try clear hfz7_2
       try clear hfz7_3
       try clear hx374_0
       try clear hx374_1
       try clear hx374_2
       try clear hx374_3
       try clear p2
       try clear p374
       try clear q374
       obtain ⟨x5_2, x18_2, rfl, HA, HK2, HO_5, BK375, HB⟩ := hrel
       cases gk with
       | zero => exact absurd HA.out (by simp [impl_multiplyTerms.l1])
       | succ k2 =>
        have H := HA.out
        clear HA
        simp only [impl_multiplyTerms.l1] at H
        by_cases c8 : x18_2 < (l1.length : Int)
        ·
         rw [if_pos c8] at H
         have c8b0 : decide (x18_2 < (l1.length : Int)) = true := decide_eq_true c8
         clear c8
         by_cases c9 : 0 ≤ x18_2
         ·
          rw [if_pos c9] at H
          have c9b0 : decide (0 ≤ x18_2) = true := decide_eq_true c9
          clear c9
          by_cases c10 : x18_2 < (l1.length : Int)
          ·
           rw [if_pos c10] at H
           have c10b0 : decide (x18_2 < (l1.length : Int)) = true := decide_eq_true c10
           clear c10
           by_cases c11 : x5_2.length < 4398046511104
           ·
            rw [if_pos c11] at H
            have LMc11 := Aside0.mk c11
            clear c11
            obtain ⟨y378, hy378⟩ : ∃ y_ : List (S51), y_ = (x5_2 ++ [(⟨wrap64 (((rd_T51 l0 x12_1).f0) * ((rd_T51 l1 x18_2).f0)), wrap64 (((rd_T51 l0 x12_1).f1) + ((rd_T51 l1 x18_2).f1)), wrap64 (((rd_T51 l0 x12_1).f2) + ((rd_T51 l1 x18_2).f2)), wrap64 (((rd_T51 l0 x12_1).f3) + ((rd_T51 l1 x18_2).f3))⟩ : S51)]) := ⟨_, rfl⟩
            replace H : (impl_multiplyTerms.l1 k2 l1 y378 l0 (l0.length : Int) x12_1 l1 (l1.length : Int) (wrap64 (x18_2 + 1)) ((rd_T51 l0 x12_1).f0) ((rd_T51 l0 x12_1).f1) ((rd_T51 l0 x12_1).f2) ((rd_T51 l0 x12_1).f3)) = some r := by first | (rw [hy378]; with_reducible exact H) | (have H2_ := (Option.bind_some _ _).symm.trans H; rw [hy378]; with_reducible exact H2_) | (have H2_ := (Option.bind_some _ _).symm.trans H; with_reducible exact H2_) | with_reducible exact H | (rw [hy378]; exact H) | exact H
            have Ny378 := Aside0.mk hy378
            clear hy378
            have H' := Aside0.mk H
            clear H
            have p376 : 0 ≤ (x18_2 : Int) := of_decide_eq_true (by first | (with_reducible assumption) | assumption)
            have q376 : x18_2 < (l1.length : Int) := of_decide_eq_true (by first | (with_reducible assumption) | assumption)
            obtain ⟨ad376, e376, hx376_0, hx376_1, hx376_2, hx376_3⟩ := at_T51 HR1.out x18_2 p376 q376
            cases e376
            replace hx376_0 := pw_cell_below HB.out hx376_0
            replace hx376_1 := pw_cell_below HB.out hx376_1
            replace hx376_2 := pw_cell_below HB.out hx376_2
            replace hx376_3 := pw_cell_below HB.out hx376_3
            replace p376 := eq_true p376
            replace q376 := eq_true q376
            go_wp2_with (first | ((with_reducible refine gate_dst (N := 9) rfl ?_); refine zbe (N := 9) (cs := #[.int .i64 0, .int .i64 0, .int .i64 0, .int .i64 0]) (t := 51) ?_; intro gb377 hg w12 hbox hb; have BK377 := Aside0.mk (hbox); have GW377 := Aside0.mk (zge (zb1 HB) hg); have GE377 := GW377; have NB375_377 := Aside0.mk (zlt BK375 hg); have NB377_375 := Aside0.mk (zgt BK375 hg); replace HO_5 := Aside0.mk (Kd.R_below (Kd.R_elderB (zq3 HO_5) gb377 (Nat.le_of_eq hg.symm)) hb); replace BK375 := Aside0.mk (zbb BK375 hb); replace HB := Aside0.mk (below_step (zb1 HB) hb); clear hb hbox hg; have hnb13 := NB377_375.out; have hnc13 := NB375_377.out; have hcz14_0 : w12.cell? ⟨gb377, 0, none⟩ = some (.int .i64 0) := zc BK377 0; have hcz14_1 : w12.cell? ⟨gb377, 1, none⟩ = some (.int .i64 0) := zc BK377 1; have hcz14_2 : w12.cell? ⟨gb377, 2, none⟩ = some (.int .i64 0) := zc BK377 2; have hcz14_3 : w12.cell? ⟨gb377, 3, none⟩ = some (.int .i64 0) := zc BK377 3; have hfz14_0 := blk_frozen BK377.out 0; have hfz14_1 := blk_frozen BK377.out 1; have hfz14_2 := blk_frozen BK377.out 2; have hfz14_3 := blk_frozen BK377.out 3; have hcz15_0 : w12.cell? ⟨gb375, 0, none⟩ = some (.int .i64 ((rd_T51 l0 x12_1).f0)) := zc BK375 0; have hcz15_1 : w12.cell? ⟨gb375, 1, none⟩ = some (.int .i64 ((rd_T51 l0 x12_1).f1)) := zc BK375 1; have hcz15_2 : w12.cell? ⟨gb375, 2, none⟩ = some (.int .i64 ((rd_T51 l0 x12_1).f2)) := zc BK375 2; have hcz15_3 : w12.cell? ⟨gb375, 3, none⟩ = some (.int .i64 ((rd_T51 l0 x12_1).f3)) := zc BK375 3; have hfz15_0 := blk_frozen BK375.out 0; have hfz15_1 := blk_frozen BK375.out 1; have hfz15_2 := blk_frozen BK375.out 2; have hfz15_3 := blk_frozen BK375.out 3) | ((with_reducible refine gate_builtin (b := .append) (xs := #[.tmp 22, .tmp 44]) rfl ?_); at_builtin; refine Kd.R_append k51 (w0 := w) w.heap.size rfl (.tmp 22) (.tmp 44) 25 51 (.agg #[(.int .i64 0), (.int .i64 0), (.int .i64 0), (.int .i64 0)]) 32 rfl Try.underlying25 info51 rfl (by decide) (by omega) u5 x5_2 (⟨wrap64 (((rd_T51 l0 x12_1).f0) * ((rd_T51 l1 x18_2).f0)), wrap64 (((rd_T51 l0 x12_1).f1) + ((rd_T51 l1 x18_2).f1)), wrap64 (((rd_T51 l0 x12_1).f2) + ((rd_T51 l1 x18_2).f2)), wrap64 (((rd_T51 l0 x12_1).f3) + ((rd_T51 l1 x18_2).f3))⟩ : S51) [.int .i64 (wrap64 (((rd_T51 l0 x12_1).f0) * ((rd_T51 l1 x18_2).f0))), .int .i64 (wrap64 (((rd_T51 l0 x12_1).f1) + ((rd_T51 l1 x18_2).f1))), .int .i64 (wrap64 (((rd_T51 l0 x12_1).f2) + ((rd_T51 l1 x18_2).f2))), .int .i64 (wrap64 (((rd_T51 l0 x12_1).f3) + ((rd_T51 l1 x18_2).f3)))] (fun k_ => k_ ≠ gb375 ∧ k_ ≠ gb377) (fun _ => False) rfl (by first | (go_simp; done) | (go_simp; rfl)) ?aP (fun _ hk => hk.elim) ?aF ?aO ?aB ?aS ?aL ?_; (case aP => exact k51_mkM _ _ _ (⟨wrap64 (((rd_T51 l0 x12_1).f0) * ((rd_T51 l1 x18_2).f0)), wrap64 (((rd_T51 l0 x12_1).f1) + ((rd_T51 l1 x18_2).f1)), wrap64 (((rd_T51 l0 x12_1).f2) + ((rd_T51 l1 x18_2).f2)), wrap64 (((rd_T51 l0 x12_1).f3) + ((rd_T51 l1 x18_2).f3))⟩ : S51)); (case aB => exact (zb1 HB)); (case aF => exact (fun k_ hk => ⟨Kd.freshB (g := gb375) (o := .cells #[.int .i64 ((rd_T51 l0 x12_1).f0), .int .i64 ((rd_T51 l0 x12_1).f1), .int .i64 ((rd_T51 l0 x12_1).f2), .int .i64 ((rd_T51 l0 x12_1).f3)] 51 (0, 0)) (zq5 BK375) k_ hk, Kd.freshB (g := gb377) (o := .cells #[.int .i64 ((rd_T51 l1 x18_2).f0), .int .i64 ((rd_T51 l1 x18_2).f1), .int .i64 ((rd_T51 l1 x18_2).f2), .int .i64 ((rd_T51 l1 x18_2).f3)] 51 (0, 0)) (by (with_reducible repeat (first | refine blk_drewN ?_ _ | refine blk_drew ?_ | refine blk_alloc ?_ _)); refine blk_put (cs := #[.int .i64 ((rd_T51 l1 x18_2).f0), .int .i64 ((rd_T51 l1 x18_2).f1), .int .i64 ((rd_T51 l1 x18_2).f2), .int .i64 0]) ?_ 3 _ rfl; (with_reducible repeat (first | refine blk_drewN ?_ _ | refine blk_drew ?_ | refine blk_alloc ?_ _)); refine blk_put (cs := #[.int .i64 ((rd_T51 l1 x18_2).f0), .int .i64 ((rd_T51 l1 x18_2).f1), .int .i64 0, .int .i64 0]) ?_ 2 _ rfl; (with_reducible repeat (first | refine blk_drewN ?_ _ | refine blk_drew ?_ | refine blk_alloc ?_ _)); refine blk_put (cs := #[.int .i64 ((rd_T51 l1 x18_2).f0), .int .i64 0, .int .i64 0, .int .i64 0]) ?_ 1 _ rfl; (with_reducible repeat (first | refine blk_drewN ?_ _ | refine blk_drew ?_ | refine blk_alloc ?_ _)); refine blk_put (cs := #[.int .i64 0, .int .i64 0, .int .i64 0, .int .i64 0]) ?_ 0 _ rfl; (with_reducible repeat (first | refine blk_drewN ?_ _ | refine blk_drew ?_ | refine blk_alloc ?_ _)); exact BK377.out) k_ hk⟩)); (case aO => exact (by (with_reducible repeat (first | apply Kd.R_alloc | apply Kd.R_drewN | apply Kd.R_drew)); exact Kd.R_mono (Kd.R_far (p := ⟨gb377, 3, none⟩) (Kd.R_far (p := ⟨gb377, 2, none⟩) (Kd.R_far (p := ⟨gb377, 1, none⟩) (Kd.R_far (p := ⟨gb377, 0, none⟩) (Kd.R_mono HO_5.out (fun k_ hk => (⟨hk, hk.2⟩ : _ ∧ k_ ≠ gb377))) (fun _ hk => hk.2) (.int .i64 ((rd_T51 l1 x18_2).f0))) (fun _ hk => hk.2) (.int .i64 ((rd_T51 l1 x18_2).f1))) (fun _ hk => hk.2) (.int .i64 ((rd_T51 l1 x18_2).f2))) (fun _ hk => hk.2) (.int .i64 ((rd_T51 l1 x18_2).f3))) (fun _ hk => ⟨hk.1.1, hk.1.2⟩))); (case aS => exact (below_size (zb1 HB))); (case aL => have := LMc11.out; omega); intro v379 w16 ho hb hg hat; rw [← Ny378.out] at ho; have HO380 := Aside0.mk (ho); replace BK375 := Aside0.mk (blk_grown (g := gb375) (o := .cells #[.int .i64 ((rd_T51 l0 x12_1).f0), .int .i64 ((rd_T51 l0 x12_1).f1), .int .i64 ((rd_T51 l0 x12_1).f2), .int .i64 ((rd_T51 l0 x12_1).f3)] 51 (0, 0)) (zq5 BK375) hg (Kd.R_away HO_5.out (fun _ hk => hk.1))); replace BK377 := Aside0.mk (blk_grown (g := gb377) (o := .cells #[.int .i64 ((rd_T51 l1 x18_2).f0), .int .i64 ((rd_T51 l1 x18_2).f1), .int .i64 ((rd_T51 l1 x18_2).f2), .int .i64 ((rd_T51 l1 x18_2).f3)] 51 (0, 0)) (by (with_reducible repeat (first | refine blk_drewN ?_ _ | refine blk_drew ?_ | refine blk_alloc ?_ _)); refine blk_put (cs := #[.int .i64 ((rd_T51 l1 x18_2).f0), .int .i64 ((rd_T51 l1 x18_2).f1), .int .i64 ((rd_T51 l1 x18_2).f2), .int .i64 0]) ?_ 3 _ rfl; (with_reducible repeat (first | refine blk_drewN ?_ _ | refine blk_drew ?_ | refine blk_alloc ?_ _)); refine blk_put (cs := #[.int .i64 ((rd_T51 l1 x18_2).f0), .int .i64 ((rd_T51 l1 x18_2).f1), .int .i64 0, .int .i64 0]) ?_ 2 _ rfl; (with_reducible repeat (first | refine blk_drewN ?_ _ | refine blk_drew ?_ | refine blk_alloc ?_ _)); refine blk_put (cs := #[.int .i64 ((rd_T51 l1 x18_2).f0), .int .i64 0, .int .i64 0, .int .i64 0]) ?_ 1 _ rfl; (with_reducible repeat (first | refine blk_drewN ?_ _ | refine blk_drew ?_ | refine blk_alloc ?_ _)); refine blk_put (cs := #[.int .i64 0, .int .i64 0, .int .i64 0, .int .i64 0]) ?_ 0 _ rfl; (with_reducible repeat (first | refine blk_drewN ?_ _ | refine blk_drew ?_ | refine blk_alloc ?_ _)); exact BK377.out) hg (Kd.R_away HO_5.out (fun _ hk => hk.2))); replace HB := Aside0.mk (hb); clear HO_5; clear ho hb hg hat))
            go_roundg k2
            case measure => have := HK1.out; have := HK2.out; omega
            case rel => exact ⟨(y378), (wrap64 (x18_2 + 1)), (by first | rfl | (simp; done) | (simp [*]; done)), H', ⟨by have := HK1.out; have := HK2.out; omega⟩, ⟨by (with_reducible repeat (first | apply Kd.R_alloc | apply Kd.R_drewN | apply Kd.R_drew)); exact Kd.R_mono HO380.out (fun _ hk => hk.1)⟩, ⟨by (with_reducible repeat (first | refine blk_drewN ?_ _ | refine blk_drew ?_ | refine blk_alloc ?_ _)); exact BK375.out⟩, ⟨(zb1 HB)⟩⟩
           ·
            rw [if_neg c11] at H
            exact absurd H (by simp)
          ·
           rw [if_neg c10] at H
           exact absurd H (by simp)
         ·
          rw [if_neg c9] at H
          exact absurd H (by simp)
        ·
         rw [if_neg c8] at H
         have c8b0 : decide (x18_2 < (l1.length : Int)) = false := decide_eq_false c8
         clear c8
         have H' := Aside0.mk H
         clear H
         go_wp2
         go_roundg k2
         case measure => have := HK1.out; have := HK2.out; omega
         case rel => exact ⟨(x5_2), (wrap64 (x12_1 + 1)), (by first | rfl | (simp; done) | (simp [*]; done)), H', ⟨by have := HK1.out; have := HK2.out; omega⟩, ⟨by (with_reducible repeat (first | apply Kd.R_alloc | apply Kd.R_drewN | apply Kd.R_drew)); exact Kd.R_mono HO_5.out (fun _ hk => trivial)⟩, ⟨(zb1 HB)⟩⟩
     ·
      rw [if_neg c5] at H
      exact absurd H (by simp)
    ·
     rw [if_neg c4] at H
     exact absurd H (by simp)
   ·
    rw [if_neg c3] at H
    have c3b0 : decide (x12_1 < (l0.length : Int)) = false := decide_eq_false c3
    clear c3
    replace H := Option.bind_eq_some_iff.mp H
    obtain ⟨t371, A170, H⟩ := H
    replace H : (some t371) = some r := H
    have A17 := Aside0.mk A170
    clear A170
    obtain rfl := Option.some.inj H
    obtain ⟨Ao18, co18, eo18⟩ := Kd.R_slice HO_5.out
    subst eo18
    go_wp2_with (first | ((with_reducible refine gate_callee (f := 47) rfl ?_); refine goesL_ (some 49) rfl rfl Try.func47 (by kernel_rfl) rfl #[.slice Ao18 x5_1.length co18] rfl zq6 ?_; (with_reducible refine (impl_collect.calls _ _ x5_1 t371 _ ?side1 ?side2 A17.out).mono ?_); (case side1 => repeat (first | exact (Kd.R_reads' HO_5.out).2.2 | (with_reducible refine Kd.C_alloc ?_ _) | (with_reducible refine Kd.C_drewN ?_ _) | (with_reducible refine Kd.C_drew ?_))); (case side2 => exact (Kd.R_reads' HO_5.out).2.1); rintro e w19 ⟨v372, rfl, ho0, hb⟩; refine ⟨_, rfl, ?_⟩; have HO373 := Aside0.mk (Kd.R_lower (Kd.R_new' ho0 (Kd.R_lt (zq3 HO_5))) (below_size (zb0 HB))); replace HO_5 := Aside0.mk (Kd.R_elder' (zq3 HO_5) (Kd.R_base ho0) hb); replace HB := Aside0.mk (below_step (zb0 HB) hb); (try clear hb); (try clear hb2); (try clear hk); (try clear hi); (try clear ho0)))
    go_ret
    exact ⟨_, by first | rfl | (simp [errW_none, errW_some] <;> rfl) | (simp [*, errW_none, errW_some] <;> rfl), by (with_reducible repeat (first | apply Kd.R_alloc | apply Kd.R_drewN | apply Kd.R_drew)); exact Kd.R_mono HO373.out (fun _ hk => trivial), (zb0 HB)⟩
/-! ### impl_MultiplyPoly: function 20 -/
set_option maxHeartbeats 8000000 in
set_option maxRecDepth 100000 in
theorem impl_MultiplyPoly.calls (k : Nat) (A0 : Option Addr) (c0 : Nat) (l0 : List (S51)) (A1 : Option Addr) (c1 : Nat) (l1 : List (S51)) (r1 : List (S51)) (r2 : Bool) (w : World) (hr0 : Kd.C k51 w A0 l0.length l0) (hc0 : l0.length ≤ c0) (hr1 : Kd.C k51 w A1 l1.length l1) (hc1 : l1.length ≤ c1) (h : impl_MultiplyPoly.f k l0 l1 = some (r1, r2)) :
  Calls Try.prog 20 #[.slice A0 l0.length c0, .slice A1 l1.length c1] w fun e w' => ∃ v0_ : Value, e = .returned (.tuple #[v0_, .bool r2]) ∧ Kd.R k51 51 w' w.heap.size (fun _ => True) v0_ r1 ∧ Below w.heap.size w w' := by
 have HR0 := Aside0.mk hr0
 have HC0 := Aside0.mk hc0
 clear hr0 hc0
 have HR1 := Aside0.mk hr1
 have HC1 := Aside0.mk hc1
 clear hr1 hc1
 have HB := Aside0.mk (Below.refl w.heap.size w)
 have H : ((impl_isPoly.f k l0).bind fun t381 => (if t381 = true then ((impl_isPoly.f k l1).bind fun t382 => (impl_MultiplyPoly.j0 k l0 l1 (!t382))) else (impl_MultiplyPoly.j0 k l0 l1 true))) = some (r1, r2) := h
 clear h
 have HC3 := Aside0.mk H
 clear H
 go_enter Try.func20, Try.ntmps20
 go_upto_region 1 with (fail)
 go_cut [13] (fun v13 wc => ∃ (kq : Nat) (x13_2 : Bool), v13 = .bool x13_2 ∧ Aside0 (impl_MultiplyPoly.j0 kq l0 l1 x13_2 = some (r1, r2)) ∧ Aside0 (kq ≤ k) ∧ Aside0 (Below w.heap.size w wc))
 case first =>
  have H := HC3.out
  clear HC3
  replace H := Option.bind_eq_some_iff.mp H
  obtain ⟨t381, A40, H⟩ := H
  replace H : (if t381 = true then ((impl_isPoly.f k l1).bind fun t382 => (impl_MultiplyPoly.j0 k l0 l1 (!t382))) else (impl_MultiplyPoly.j0 k l0 l1 true)) = some (r1, r2) := H
  have A4 := Aside0.mk A40
  clear A40
  by_cases c5 : t381 = true
  ·
   subst c5
   have H1 : ((impl_isPoly.f k l1).bind fun t382 => (impl_MultiplyPoly.j0 k l0 l1 (!t382))) = some (r1, r2) := by rw [if_pos rfl] at H; exact H
   clear H
   have H := H1
   clear H1
   replace H := Option.bind_eq_some_iff.mp H
   obtain ⟨t382, A60, H⟩ := H
   replace H : (impl_MultiplyPoly.j0 k l0 l1 (!t382)) = some (r1, r2) := H
   have A6 := Aside0.mk A60
   clear A60
   have H' := Aside0.mk H
   clear H
   go_wp2_with (first | ((with_reducible refine gate_callee (f := 40) rfl ?_); refine goesL_ (some 7) rfl rfl Try.func40 (by kernel_rfl) rfl #[.slice A0 l0.length c0] rfl zq6 ?_; (with_reducible refine (impl_isPoly.calls k _ _ l0 true _ ?side1 ?side2 A4.out).mono ?_); (case side1 => repeat (first | exact (Kd.C_below HR0.out HB.out) | (with_reducible refine Kd.C_alloc ?_ _) | (with_reducible refine Kd.C_drewN ?_ _) | (with_reducible refine Kd.C_drew ?_))); (case side2 => exact HC0.out); rintro e w7 ⟨rfl, hb⟩; refine ⟨_, rfl, ?_⟩; replace HB := Aside0.mk (below_step (zb0 HB) hb); (try clear hb); (try clear hb2); (try clear hk); (try clear hi)) | (go_at_call 40; (with_reducible refine (impl_isPoly.calls k _ _ l1 t382 _ ?side1 ?side2 A6.out).mono ?_); (case side1 => repeat (first | exact (Kd.C_below HR1.out HB.out) | (with_reducible refine Kd.C_alloc ?_ _) | (with_reducible refine Kd.C_drewN ?_ _) | (with_reducible refine Kd.C_drew ?_))); (case side2 => exact HC1.out); rintro e w8 ⟨rfl, hb⟩; replace HB := Aside0.mk (below_step (zb0 HB) hb); (try clear hb); (try clear hb2); (try clear hk); (try clear hi)))
   go_meet
   case rel => exact ⟨_, (!t382), (by first | rfl | (simp; done) | (simp [*]; done)), H', ⟨by first | omega | exact Nat.le_refl _⟩, ⟨(zb0 HB)⟩⟩
  ·
   replace c5 := Bool.eq_false_iff.mpr c5
   subst c5
   have H1 : (impl_MultiplyPoly.j0 k l0 l1 true) = some (r1, r2) := by rw [if_neg (show ¬ (false = true) by decide)] at H; exact H
   clear H
   have H := H1
   clear H1
   have H' := Aside0.mk H
   clear H
   go_wp2_with (first | ((with_reducible refine gate_callee (f := 40) rfl ?_); refine goesL_ (some 7) rfl rfl Try.func40 (by kernel_rfl) rfl #[.slice A0 l0.length c0] rfl zq6 ?_; (with_reducible refine (impl_isPoly.calls k _ _ l0 false _ ?side1 ?side2 A4.out).mono ?_); (case side1 => repeat (first | exact (Kd.C_below HR0.out HB.out) | (with_reducible refine Kd.C_alloc ?_ _) | (with_reducible refine Kd.C_drewN ?_ _) | (with_reducible refine Kd.C_drew ?_))); (case side2 => exact HC0.out); rintro e w9 ⟨rfl, hb⟩; refine ⟨_, rfl, ?_⟩; replace HB := Aside0.mk (below_step (zb0 HB) hb); (try clear hb); (try clear hb2); (try clear hk); (try clear hi)))
   go_meet
   case rel => exact ⟨_, (true), (by first | rfl | (simp; done) | (simp [*]; done)), H', ⟨by first | omega | exact Nat.le_refl _⟩, ⟨(zb0 HB)⟩⟩
 case rest =>
  clear HC3
  try clear c1
  try clear c2
  try clear p2
  try clear c4
  try clear c5
  obtain ⟨kq, x13_2, rfl, HA, HJ2, HB⟩ := hcut
  cases kq with
  | zero => exact absurd HA.out (by simp [impl_MultiplyPoly.j0])
  | succ kj2 =>
   have H := HA.out
   clear HA
   simp only [impl_MultiplyPoly.j0] at H
   by_cases c10 : x13_2 = true
   ·
    subst c10
    have H1 : (some (([] : List (S51)), false)) = some (r1, r2) := by rw [if_pos rfl] at H; exact H
    clear H
    have H := H1
    clear H1
    simp only [Option.some.injEq, Prod.mk.injEq] at H
    obtain ⟨rfl, rfl⟩ := H
    go_wp2
    go_ret2
    exact ⟨_, by first | rfl | (simp [errW_none, errW_some] <;> rfl) | (simp [*, errW_none, errW_some] <;> rfl), by first | exact Kd.R_nil _ _ _ _ _ | exact Kd.N_nil _ _ _ _ _ | exact Kd.V_nil _ _ _ _ _ | exact Kd.Q_nil _ _ _ _ _ | exact Kd.S_nil _ _ _ _ _, (zb0 HB)⟩
   ·
    replace c10 := Bool.eq_false_iff.mpr c10
    subst c10
    have H1 : ((impl_multiplyTerms.f kj2 l0 l1).bind fun t383 => ((impl_polyResult.f kj2 t383).bind fun bt386 => (some (bt386.1, bt386.2)))) = some (r1, r2) := by rw [if_neg (show ¬ (false = true) by decide)] at H; exact H
    clear H
    have H := H1
    clear H1
    replace H := Option.bind_eq_some_iff.mp H
    obtain ⟨t383, A110, H⟩ := H
    replace H : ((impl_polyResult.f kj2 t383).bind fun bt386 => (some (bt386.1, bt386.2))) = some (r1, r2) := H
    have A11 := Aside0.mk A110
    clear A110
    replace H := Option.bind_eq_some_iff.mp H
    obtain ⟨⟨t386, t389⟩, A120, H⟩ := H
    replace H : (some (t386, t389)) = some (r1, r2) := H
    have A12 := Aside0.mk A120
    clear A120
    simp only [Option.some.injEq, Prod.mk.injEq] at H
    obtain ⟨rfl, rfl⟩ := H
    go_wp2_with (first | ((with_reducible refine gate_callee (f := 56) rfl ?_); refine goesL_ (some 16) rfl rfl Try.func56 (by kernel_rfl) rfl #[.slice A0 l0.length c0, .slice A1 l1.length c1] rfl zq6 ?_; (with_reducible refine (impl_multiplyTerms.calls kj2 _ _ l0 _ _ l1 t383 _ ?side1 ?side2 ?side3 ?side4 A11.out).mono ?_); (case side1 => repeat (first | exact (Kd.C_below HR0.out HB.out) | (with_reducible refine Kd.C_alloc ?_ _) | (with_reducible refine Kd.C_drewN ?_ _) | (with_reducible refine Kd.C_drew ?_))); (case side2 => exact HC0.out); (case side3 => repeat (first | exact (Kd.C_below HR1.out HB.out) | (with_reducible refine Kd.C_alloc ?_ _) | (with_reducible refine Kd.C_drewN ?_ _) | (with_reducible refine Kd.C_drew ?_))); (case side4 => exact HC1.out); rintro e w13 ⟨v384, rfl, ho0, hb⟩; refine ⟨_, rfl, ?_⟩; have HO385 := Aside0.mk (Kd.R_lower ho0 (below_size (zb0 HB))); replace HB := Aside0.mk (below_step (zb0 HB) hb); (try clear hb); (try clear hb2); (try clear hk); (try clear hi); (try clear ho0); obtain ⟨Ao14, co14, eo14⟩ := Kd.R_slice HO385.out; subst eo14) | ((with_reducible refine gate_callee (f := 46) rfl ?_); refine goesL_ (some 17) rfl rfl Try.func46 (by kernel_rfl) rfl #[.slice Ao14 t383.length co14] rfl zq6 ?_; (with_reducible refine (impl_polyResult.calls kj2 (fun k_ => some k_ = (.slice Ao14 t383.length co14 : Value).ownBlock) (.slice Ao14 t383.length co14) t383 t386 t389 w _ ?side1 ?side2 A12.out).mono ?_); (case side1 => exact zb0 HB); (case side2 => exact Kd.R_tight rfl HO385.out); rintro e w15 ⟨v387, rfl, ho0, hb, hkp⟩; refine ⟨_, rfl, ?_⟩; have HO388 := Aside0.mk (Kd.R_mono (ok' := fun k_ => True) ho0 (fun k_ hk_ => trivial)); replace HB := Aside0.mk (hb); clear HO385; (try clear hb); (try clear hkp); (try clear ho0)))
    go_ret2
    exact ⟨_, by first | rfl | (simp [errW_none, errW_some] <;> rfl) | (simp [*, errW_none, errW_some] <;> rfl), by (with_reducible repeat (first | apply Kd.R_alloc | apply Kd.R_drewN | apply Kd.R_drew)); exact HO388.out, (zb0 HB)⟩
/-! ### spec_MultiplyPoly: function 21 -/
set_option maxHeartbeats 8000000 in
set_option maxRecDepth 100000 in
theorem spec_MultiplyPoly.calls (k : Nat) (A0 : Option Addr) (c0 : Nat) (l0 : List (S51)) (A1 : Option Addr) (c1 : Nat) (l1 : List (S51)) (r1 : List (S51)) (r2 : Bool) (w : World) (hr0 : Kd.C k51 w A0 l0.length l0) (hc0 : l0.length ≤ c0) (hr1 : Kd.C k51 w A1 l1.length l1) (hc1 : l1.length ≤ c1) (h : spec_MultiplyPoly.f k l0 l1 = some (r1, r2)) :
  Calls Try.prog 21 #[.slice A0 l0.length c0, .slice A1 l1.length c1] w fun e w' => ∃ v0_ : Value, e = .returned (.tuple #[v0_, .bool r2]) ∧ Kd.R k51 51 w' w.heap.size (fun _ => True) v0_ r1 ∧ Below w.heap.size w w' := by
 have HR0 := Aside0.mk hr0
 have HC0 := Aside0.mk hc0
 clear hr0 hc0
 have HR1 := Aside0.mk hr1
 have HC1 := Aside0.mk hc1
 clear hr1 hc1
 have HB := Aside0.mk (Below.refl w.heap.size w)
 have H : ((spec_poGood.f k l0).bind fun t390 => (if t390 = true then ((spec_poGood.f k l1).bind fun t391 => (if t391 = true then ((spec_poMul.f k l0 l1).bind fun bt392 => (some (bt392.1, bt392.2))) else (some (([] : List (S51)), false)))) else (some (([] : List (S51)), false)))) = some (r1, r2) := h
 clear h
 replace H := Option.bind_eq_some_iff.mp H
 obtain ⟨t390, A30, H⟩ := H
 replace H : (if t390 = true then ((spec_poGood.f k l1).bind fun t391 => (if t391 = true then ((spec_poMul.f k l0 l1).bind fun bt392 => (some (bt392.1, bt392.2))) else (some (([] : List (S51)), false)))) else (some (([] : List (S51)), false))) = some (r1, r2) := H
 have A3 := Aside0.mk A30
 clear A30
 by_cases c4 : t390 = true
 ·
  subst c4
  have H1 : ((spec_poGood.f k l1).bind fun t391 => (if t391 = true then ((spec_poMul.f k l0 l1).bind fun bt392 => (some (bt392.1, bt392.2))) else (some (([] : List (S51)), false)))) = some (r1, r2) := by rw [if_pos rfl] at H; exact H
  clear H
  have H := H1
  clear H1
  replace H := Option.bind_eq_some_iff.mp H
  obtain ⟨t391, A50, H⟩ := H
  replace H : (if t391 = true then ((spec_poMul.f k l0 l1).bind fun bt392 => (some (bt392.1, bt392.2))) else (some (([] : List (S51)), false))) = some (r1, r2) := H
  have A5 := Aside0.mk A50
  clear A50
  by_cases c6 : t391 = true
  ·
   subst c6
   have H1 : ((spec_poMul.f k l0 l1).bind fun bt392 => (some (bt392.1, bt392.2))) = some (r1, r2) := by rw [if_pos rfl] at H; exact H
   clear H
   have H := H1
   clear H1
   replace H := Option.bind_eq_some_iff.mp H
   obtain ⟨⟨t392, t393⟩, A70, H⟩ := H
   replace H : (some (t392, t393)) = some (r1, r2) := H
   have A7 := Aside0.mk A70
   clear A70
   simp only [Option.some.injEq, Prod.mk.injEq] at H
   obtain ⟨rfl, rfl⟩ := H
   go_enter Try.func21, Try.ntmps21
   go_wp2_with (first | ((with_reducible refine gate_callee (f := 33) rfl ?_); refine goesL_ (some 7) rfl rfl Try.func33 (by kernel_rfl) rfl #[.slice A0 l0.length c0] rfl zq6 ?_; (with_reducible refine (spec_poGood.calls k _ _ l0 true _ ?side1 ?side2 A3.out).mono ?_); (case side1 => repeat (first | exact HR0.out | (with_reducible refine Kd.C_alloc ?_ _) | (with_reducible refine Kd.C_drewN ?_ _) | (with_reducible refine Kd.C_drew ?_))); (case side2 => exact HC0.out); rintro e w8 ⟨rfl, hb⟩; refine ⟨_, rfl, ?_⟩; replace HB := Aside0.mk (below_step (zb0 HB) hb); (try clear hb); (try clear hb2); (try clear hk); (try clear hi)) | (go_at_call 33; (with_reducible refine (spec_poGood.calls k _ _ l1 true _ ?side1 ?side2 A5.out).mono ?_); (case side1 => repeat (first | exact (Kd.C_below HR1.out HB.out) | (with_reducible refine Kd.C_alloc ?_ _) | (with_reducible refine Kd.C_drewN ?_ _) | (with_reducible refine Kd.C_drew ?_))); (case side2 => exact HC1.out); rintro e w9 ⟨rfl, hb⟩; replace HB := Aside0.mk (below_step (zb0 HB) hb); (try clear hb); (try clear hb2); (try clear hk); (try clear hi)) | ((with_reducible refine gate_callee (f := 53) rfl ?_); refine goesL_ (some 16) rfl rfl Try.func53 (by kernel_rfl) rfl #[.slice A0 l0.length c0, .slice A1 l1.length c1] rfl zq6 ?_; (with_reducible refine (spec_poMul.calls k _ _ l0 _ _ l1 t392 t393 _ ?side1 ?side2 ?side3 ?side4 A7.out).mono ?_); (case side1 => repeat (first | exact (Kd.C_below HR0.out HB.out) | (with_reducible refine Kd.C_alloc ?_ _) | (with_reducible refine Kd.C_drewN ?_ _) | (with_reducible refine Kd.C_drew ?_))); (case side2 => exact HC0.out); (case side3 => repeat (first | exact (Kd.C_below HR1.out HB.out) | (with_reducible refine Kd.C_alloc ?_ _) | (with_reducible refine Kd.C_drewN ?_ _) | (with_reducible refine Kd.C_drew ?_))); (case side4 => exact HC1.out); rintro e w10 ⟨v394, rfl, ho0, hb⟩; refine ⟨_, rfl, ?_⟩; have HO395 := Aside0.mk (Kd.R_lower ho0 (below_size (zb0 HB))); replace HB := Aside0.mk (below_step (zb0 HB) hb); (try clear hb); (try clear hb2); (try clear hk); (try clear hi); (try clear ho0)))
   go_ret2
   exact ⟨_, by first | rfl | (simp [errW_none, errW_some] <;> rfl) | (simp [*, errW_none, errW_some] <;> rfl), by (with_reducible repeat (first | apply Kd.R_alloc | apply Kd.R_drewN | apply Kd.R_drew)); exact HO395.out, (zb0 HB)⟩
  ·
   replace c6 := Bool.eq_false_iff.mpr c6
   subst c6
   have H1 : (some (([] : List (S51)), false)) = some (r1, r2) := by rw [if_neg (show ¬ (false = true) by decide)] at H; exact H
   clear H
   have H := H1
   clear H1
   simp only [Option.some.injEq, Prod.mk.injEq] at H
   obtain ⟨rfl, rfl⟩ := H
   go_enter Try.func21, Try.ntmps21
   go_wp2_with (first | ((with_reducible refine gate_callee (f := 33) rfl ?_); refine goesL_ (some 7) rfl rfl Try.func33 (by kernel_rfl) rfl #[.slice A0 l0.length c0] rfl zq6 ?_; (with_reducible refine (spec_poGood.calls k _ _ l0 true _ ?side1 ?side2 A3.out).mono ?_); (case side1 => repeat (first | exact HR0.out | (with_reducible refine Kd.C_alloc ?_ _) | (with_reducible refine Kd.C_drewN ?_ _) | (with_reducible refine Kd.C_drew ?_))); (case side2 => exact HC0.out); rintro e w11 ⟨rfl, hb⟩; refine ⟨_, rfl, ?_⟩; replace HB := Aside0.mk (below_step (zb0 HB) hb); (try clear hb); (try clear hb2); (try clear hk); (try clear hi)) | (go_at_call 33; (with_reducible refine (spec_poGood.calls k _ _ l1 false _ ?side1 ?side2 A5.out).mono ?_); (case side1 => repeat (first | exact (Kd.C_below HR1.out HB.out) | (with_reducible refine Kd.C_alloc ?_ _) | (with_reducible refine Kd.C_drewN ?_ _) | (with_reducible refine Kd.C_drew ?_))); (case side2 => exact HC1.out); rintro e w12 ⟨rfl, hb⟩; replace HB := Aside0.mk (below_step (zb0 HB) hb); (try clear hb); (try clear hb2); (try clear hk); (try clear hi)))
   go_ret2
   exact ⟨_, by first | rfl | (simp [errW_none, errW_some] <;> rfl) | (simp [*, errW_none, errW_some] <;> rfl), by first | exact Kd.R_nil _ _ _ _ _ | exact Kd.N_nil _ _ _ _ _ | exact Kd.V_nil _ _ _ _ _ | exact Kd.Q_nil _ _ _ _ _ | exact Kd.S_nil _ _ _ _ _, (zb0 HB)⟩
 ·
  replace c4 := Bool.eq_false_iff.mpr c4
  subst c4
  have H1 : (some (([] : List (S51)), false)) = some (r1, r2) := by rw [if_neg (show ¬ (false = true) by decide)] at H; exact H
  clear H
  have H := H1
  clear H1
  simp only [Option.some.injEq, Prod.mk.injEq] at H
  obtain ⟨rfl, rfl⟩ := H
  go_enter Try.func21, Try.ntmps21
  go_wp2_with (first | ((with_reducible refine gate_callee (f := 33) rfl ?_); refine goesL_ (some 7) rfl rfl Try.func33 (by kernel_rfl) rfl #[.slice A0 l0.length c0] rfl zq6 ?_; (with_reducible refine (spec_poGood.calls k _ _ l0 false _ ?side1 ?side2 A3.out).mono ?_); (case side1 => repeat (first | exact HR0.out | (with_reducible refine Kd.C_alloc ?_ _) | (with_reducible refine Kd.C_drewN ?_ _) | (with_reducible refine Kd.C_drew ?_))); (case side2 => exact HC0.out); rintro e w13 ⟨rfl, hb⟩; refine ⟨_, rfl, ?_⟩; replace HB := Aside0.mk (below_step (zb0 HB) hb); (try clear hb); (try clear hb2); (try clear hk); (try clear hi)))
  go_ret2
  exact ⟨_, by first | rfl | (simp [errW_none, errW_some] <;> rfl) | (simp [*, errW_none, errW_some] <;> rfl), by first | exact Kd.R_nil _ _ _ _ _ | exact Kd.N_nil _ _ _ _ _ | exact Kd.V_nil _ _ _ _ _ | exact Kd.Q_nil _ _ _ _ _ | exact Kd.S_nil _ _ _ _ _, (zb0 HB)⟩
/-! ### impl_ScalePoly: function 23 -/
set_option maxHeartbeats 8000000 in
set_option maxRecDepth 100000 in
theorem impl_ScalePoly.calls (k : Nat) (A0 : Option Addr) (c0 : Nat) (l0 : List (S51)) (a1 : Int) (r1 : List (S51)) (r2 : Bool) (w : World) (hr0 : Kd.C k51 w A0 l0.length l0) (hc0 : l0.length ≤ c0) (h : impl_ScalePoly.f k l0 a1 = some (r1, r2)) :
  Calls Try.prog 23 #[.slice A0 l0.length c0, .int .i64 a1] w fun e w' => ∃ v0_ : Value, e = .returned (.tuple #[v0_, .bool r2]) ∧ Kd.R k51 51 w' w.heap.size (fun _ => True) v0_ r1 ∧ Below w.heap.size w w' := by
 have hu51 := Try.underlying51
 have HR0 := Aside0.mk hr0
 have HC0 := Aside0.mk hc0
 clear hr0 hc0
 have HB := Aside0.mk (Below.refl w.heap.size w)
 have H : ((impl_isPoly.f k l0).bind fun t398 => (if t398 = true then ((impl_inside.f a1 (-1000) 1000).bind fun t399 => (impl_ScalePoly.j0 k l0 a1 (!t399))) else (impl_ScalePoly.j0 k l0 a1 true))) = some (r1, r2) := h
 clear h
 have HC3 := Aside0.mk H
 clear H
 go_enter Try.func23, Try.ntmps23
 go_upto_region 1 with (fail)
 go_cut [13] (fun v13 wc => ∃ (kq : Nat) (x13_2 : Bool), v13 = .bool x13_2 ∧ Aside0 (impl_ScalePoly.j0 kq l0 a1 x13_2 = some (r1, r2)) ∧ Aside0 (kq ≤ k) ∧ Aside0 (Below w.heap.size w wc))
 case first =>
  have H := HC3.out
  clear HC3
  replace H := Option.bind_eq_some_iff.mp H
  obtain ⟨t398, A40, H⟩ := H
  replace H : (if t398 = true then ((impl_inside.f a1 (-1000) 1000).bind fun t399 => (impl_ScalePoly.j0 k l0 a1 (!t399))) else (impl_ScalePoly.j0 k l0 a1 true)) = some (r1, r2) := H
  have A4 := Aside0.mk A40
  clear A40
  by_cases c5 : t398 = true
  ·
   subst c5
   have H1 : ((impl_inside.f a1 (-1000) 1000).bind fun t399 => (impl_ScalePoly.j0 k l0 a1 (!t399))) = some (r1, r2) := by rw [if_pos rfl] at H; exact H
   clear H
   have H := H1
   clear H1
   replace H := Option.bind_eq_some_iff.mp H
   obtain ⟨t399, A60, H⟩ := H
   replace H : (impl_ScalePoly.j0 k l0 a1 (!t399)) = some (r1, r2) := H
   have A6 := Aside0.mk A60
   clear A60
   have H' := Aside0.mk H
   clear H
   go_wp2_with (first | ((with_reducible refine gate_callee (f := 40) rfl ?_); refine goesL_ (some 7) rfl rfl Try.func40 (by kernel_rfl) rfl #[.slice A0 l0.length c0] rfl zq6 ?_; (with_reducible refine (impl_isPoly.calls k _ _ l0 true _ ?side1 ?side2 A4.out).mono ?_); (case side1 => repeat (first | exact (Kd.C_below HR0.out HB.out) | (with_reducible refine Kd.C_alloc ?_ _) | (with_reducible refine Kd.C_drewN ?_ _) | (with_reducible refine Kd.C_drew ?_))); (case side2 => exact HC0.out); rintro e w7 ⟨rfl, hb⟩; refine ⟨_, rfl, ?_⟩; replace HB := Aside0.mk (below_step (zb0 HB) hb); (try clear hb); (try clear hb2); (try clear hk); (try clear hi)) | (go_at_call 57; (with_reducible refine (impl_inside.calls a1 (-1000) 1000 t399 _ A6.out).mono ?_); rintro e w' ⟨rfl, ⟨nd, rfl⟩⟩))
   go_meet
   case rel => exact ⟨_, (!t399), (by first | rfl | (simp; done) | (simp [*]; done)), H', ⟨by first | omega | exact Nat.le_refl _⟩, ⟨(zb0 HB)⟩⟩
  ·
   replace c5 := Bool.eq_false_iff.mpr c5
   subst c5
   have H1 : (impl_ScalePoly.j0 k l0 a1 true) = some (r1, r2) := by rw [if_neg (show ¬ (false = true) by decide)] at H; exact H
   clear H
   have H := H1
   clear H1
   have H' := Aside0.mk H
   clear H
   go_wp2_with (first | ((with_reducible refine gate_callee (f := 40) rfl ?_); refine goesL_ (some 7) rfl rfl Try.func40 (by kernel_rfl) rfl #[.slice A0 l0.length c0] rfl zq6 ?_; (with_reducible refine (impl_isPoly.calls k _ _ l0 false _ ?side1 ?side2 A4.out).mono ?_); (case side1 => repeat (first | exact (Kd.C_below HR0.out HB.out) | (with_reducible refine Kd.C_alloc ?_ _) | (with_reducible refine Kd.C_drewN ?_ _) | (with_reducible refine Kd.C_drew ?_))); (case side2 => exact HC0.out); rintro e w8 ⟨rfl, hb⟩; refine ⟨_, rfl, ?_⟩; replace HB := Aside0.mk (below_step (zb0 HB) hb); (try clear hb); (try clear hb2); (try clear hk); (try clear hi)))
   go_meet
   case rel => exact ⟨_, (true), (by first | rfl | (simp; done) | (simp [*]; done)), H', ⟨by first | omega | exact Nat.le_refl _⟩, ⟨(zb0 HB)⟩⟩
 case rest =>
  clear HC3
  try clear c2
  try clear p2
  try clear c4
  try clear c5
  obtain ⟨kq, x13_2, rfl, HA, HJ2, HB⟩ := hcut
  cases kq with
  | zero => exact absurd HA.out (by simp [impl_ScalePoly.j0])
  | succ kj2 =>
   have H := HA.out
   clear HA
   simp only [impl_ScalePoly.j0] at H
   by_cases c9 : x13_2 = true
   ·
    subst c9
    have H1 : (some (([] : List (S51)), false)) = some (r1, r2) := by rw [if_pos rfl] at H; exact H
    clear H
    have H := H1
    clear H1
    simp only [Option.some.injEq, Prod.mk.injEq] at H
    obtain ⟨rfl, rfl⟩ := H
    go_wp2
    go_ret2
    exact ⟨_, by first | rfl | (simp [errW_none, errW_some] <;> rfl) | (simp [*, errW_none, errW_some] <;> rfl), by first | exact Kd.R_nil _ _ _ _ _ | exact Kd.N_nil _ _ _ _ _ | exact Kd.V_nil _ _ _ _ _ | exact Kd.Q_nil _ _ _ _ _ | exact Kd.S_nil _ _ _ _ _, (zb0 HB)⟩
   ·
    replace c9 := Bool.eq_false_iff.mpr c9
    subst c9
    have H1 : ((impl_multiplyTerms.f kj2 l0 (([(⟨a1, 0, 0, 0⟩ : S51)] : List (S51)))).bind fun t403 => ((impl_polyResult.f kj2 t403).bind fun bt406 => (some (bt406.1, bt406.2)))) = some (r1, r2) := by rw [if_neg (show ¬ (false = true) by decide)] at H; exact H
    clear H
    have H := H1
    clear H1
    obtain ⟨y400, hy400⟩ : ∃ y_ : List (S51), y_ = (([(⟨a1, 0, 0, 0⟩ : S51)] : List (S51))) := ⟨_, rfl⟩
    replace H : ((impl_multiplyTerms.f kj2 l0 y400).bind fun t403 => ((impl_polyResult.f kj2 t403).bind fun bt406 => (some (bt406.1, bt406.2)))) = some (r1, r2) := by first | (rw [hy400]; with_reducible exact H) | (have H2_ := (Option.bind_some _ _).symm.trans H; rw [hy400]; with_reducible exact H2_) | (have H2_ := (Option.bind_some _ _).symm.trans H; with_reducible exact H2_) | with_reducible exact H | (rw [hy400]; exact H) | exact H
    have Ny400 := Aside0.mk hy400
    clear hy400
    replace H := Option.bind_eq_some_iff.mp H
    obtain ⟨t403, A100, H⟩ := H
    replace H : ((impl_polyResult.f kj2 t403).bind fun bt406 => (some (bt406.1, bt406.2))) = some (r1, r2) := H
    have A10 := Aside0.mk A100
    clear A100
    replace H := Option.bind_eq_some_iff.mp H
    obtain ⟨⟨t406, t409⟩, A110, H⟩ := H
    replace H : (some (t406, t409)) = some (r1, r2) := H
    have A11 := Aside0.mk A110
    clear A110
    simp only [Option.some.injEq, Prod.mk.injEq] at H
    obtain ⟨rfl, rfl⟩ := H
    go_wp2_with (first | ((with_reducible refine gate_dst (N := 17) rfl ?_); refine Kd.R_lit k51 _ 51 ?hg (N := 17) ?hd (xs := ([(⟨a1, 0, 0, 0⟩ : S51)] : List (S51))) (inner := [.int .i64 a1, .int .i64 0, .int .i64 0, .int .i64 0]) (ok := fun _ => True) (okp := fun _ => True) ?hr ?hp (fun _ hk => hk) trivial (Below.refl _ _) (Nat.le_refl _) (by simp) ?_; (case hd => rfl); (case hg => rfl); (case hr => first | (go_simp; done) | (go_simp; rfl)); (case hp => exact (Reps.c4 (show Kd.M k51 _ _ _ (⟨a1, 0, 0, 0⟩ : S51) [.int .i64 a1, .int .i64 0, .int .i64 0, .int .i64 0] from (k51_mkM _ _ _ (⟨a1, 0, 0, 0⟩ : S51) )) (Reps.none _ _))); intro v401 w12 ho13 hb hg_ hnew_; clear hg_ hnew_; (first | rw [← Ny400.out] at ho13 | (simp only [Int.reduceToNat] at ho13; rw [← Ny400.out] at ho13)); have HO402 := Aside0.mk (Kd.R_lower ho13 (below_size (zb0 HB))); replace HB := Aside0.mk (below_step (zb0 HB) hb); clear hb ho13; obtain ⟨Ao14, co14, eo14⟩ := Kd.R_slice HO402.out; subst eo14) | ((with_reducible refine gate_callee (f := 56) rfl ?_); refine goesL_ (some 18) rfl rfl Try.func56 (by kernel_rfl) rfl #[.slice A0 l0.length c0, .slice Ao14 y400.length co14] rfl zq6 ?_; (with_reducible refine (impl_multiplyTerms.calls kj2 _ _ l0 _ _ y400 t403 _ ?side1 ?side2 ?side3 ?side4 A10.out).mono ?_); (case side1 => repeat (first | exact (Kd.C_below HR0.out HB.out) | (with_reducible refine Kd.C_alloc ?_ _) | (with_reducible refine Kd.C_drewN ?_ _) | (with_reducible refine Kd.C_drew ?_))); (case side2 => exact HC0.out); (case side3 => repeat (first | exact (Kd.R_reads' HO402.out).2.2 | (with_reducible refine Kd.C_alloc ?_ _) | (with_reducible refine Kd.C_drewN ?_ _) | (with_reducible refine Kd.C_drew ?_))); (case side4 => exact (Kd.R_reads' HO402.out).2.1); rintro e w15 ⟨v404, rfl, ho0, hb⟩; refine ⟨_, rfl, ?_⟩; have HO405 := Aside0.mk (Kd.R_lower (Kd.R_new' ho0 (Kd.R_lt (zq3 HO402))) (below_size (zb0 HB))); replace HO402 := Aside0.mk (Kd.R_elder' (zq3 HO402) (Kd.R_base ho0) hb); replace HB := Aside0.mk (below_step (zb0 HB) hb); (try clear hb); (try clear hb2); (try clear hk); (try clear hi); (try clear ho0); obtain ⟨Ao16, co16, eo16⟩ := Kd.R_slice HO405.out; subst eo16) | ((with_reducible refine gate_callee (f := 46) rfl ?_); refine goesL_ (some 19) rfl rfl Try.func46 (by kernel_rfl) rfl #[.slice Ao16 t403.length co16] rfl zq6 ?_; (with_reducible refine (impl_polyResult.calls kj2 (fun k_ => some k_ = (.slice Ao16 t403.length co16 : Value).ownBlock) (.slice Ao16 t403.length co16) t403 t406 t409 w _ ?side1 ?side2 A11.out).mono ?_); (case side1 => exact zb0 HB); (case side2 => exact Kd.R_tight rfl HO405.out); rintro e w17 ⟨v407, rfl, ho0, hb, hkp⟩; refine ⟨_, rfl, ?_⟩; have HO408 := Aside0.mk (Kd.R_mono (ok' := fun k_ => some k_ ≠ (.slice Ao14 y400.length co14 : Value).ownBlock) ho0 (fun k_ hk_ => Or.elim hk_ (fun hs_ => fun e_ => (((HO402.out).1 k_ e_.symm).2) hs_) (fun hn_ => (Kd.fresh' (Kd.R_lt (zq3 HO402)) k_ hn_)))); replace HO402 := Aside0.mk (Kd.R_mono (ok' := fun k_ => some k_ ≠ (v407 : Value).ownBlock) (Kd.R_keptB (HO402.out) hkp (fun k_ hk_ hs_ => (hk_.2) hs_)) (fun k_ hk_ => fun e_ => Or.elim (ho0.1 k_ e_.symm) (fun hs_ => hk_.2.1 hs_) (fun hn_ => Nat.not_le.2 hk_.2.2 hn_))); replace HB := Aside0.mk (hb); clear HO405; (try clear hb); (try clear hkp); (try clear ho0)))
    go_ret2
    exact ⟨_, by first | rfl | (simp [errW_none, errW_some] <;> rfl) | (simp [*, errW_none, errW_some] <;> rfl), by (with_reducible repeat (first | apply Kd.R_alloc | apply Kd.R_drewN | apply Kd.R_drew)); exact Kd.R_mono HO408.out (fun _ hk => trivial), (zb0 HB)⟩
/-! ### impl_IsPoly: function 24 -/
set_option maxHeartbeats 8000000 in
set_option maxRecDepth 100000 in
theorem impl_IsPoly.calls (k : Nat) (A0 : Option Addr) (c0 : Nat) (l0 : List (S51)) (r : Bool) (w : World) (hr0 : Kd.C k51 w A0 l0.length l0) (hc0 : l0.length ≤ c0) (h : impl_IsPoly.f k l0 = some r) :
  Calls Try.prog 24 #[.slice A0 l0.length c0] w fun e w' => e = .returned (.bool r) ∧ Below w.heap.size w w' := by
 have HR0 := Aside0.mk hr0
 have HC0 := Aside0.mk hc0
 clear hr0 hc0
 have HB := Aside0.mk (Below.refl w.heap.size w)
 have H : ((impl_isPoly.f k l0).bind fun t410 => (some t410)) = some r := h
 clear h
 replace H := Option.bind_eq_some_iff.mp H
 obtain ⟨t410, A20, H⟩ := H
 replace H : (some t410) = some r := H
 have A2 := Aside0.mk A20
 clear A20
 obtain rfl := Option.some.inj H
 go_enter Try.func24, Try.ntmps24
 go_wp2_with (first | ((with_reducible refine gate_callee (f := 40) rfl ?_); refine goesL_ (some 4) rfl rfl Try.func40 (by kernel_rfl) rfl #[.slice A0 l0.length c0] rfl zq6 ?_; (with_reducible refine (impl_isPoly.calls k _ _ l0 t410 _ ?side1 ?side2 A2.out).mono ?_); (case side1 => repeat (first | exact HR0.out | (with_reducible refine Kd.C_alloc ?_ _) | (with_reducible refine Kd.C_drewN ?_ _) | (with_reducible refine Kd.C_drew ?_))); (case side2 => exact HC0.out); rintro e w3 ⟨rfl, hb⟩; refine ⟨_, rfl, ?_⟩; replace HB := Aside0.mk (below_step (zb0 HB) hb); (try clear hb); (try clear hb2); (try clear hk); (try clear hi)))
 go_ret
 exact ⟨by first | rfl | (simp [errW_none, errW_some] <;> rfl) | (simp [*, errW_none, errW_some] <;> rfl), (zb0 HB)⟩
/-! ### spec_poDerive: function 60 -/
set_option maxHeartbeats 8000000 in
set_option maxRecDepth 100000 in
theorem spec_poDerive.calls (k : Nat) (A0 : Option Addr) (c0 : Nat) (l0 : List (S51)) (a1 : Int) (r : List (S51)) (w : World) (hr0 : Kd.C k51 w A0 l0.length l0) (hc0 : l0.length ≤ c0) (h : spec_poDerive.f k l0 a1 = some r) :
  Calls Try.prog 60 #[.slice A0 l0.length c0, .int .i64 a1] w fun e w' => ∃ v0_ : Value, e = .returned (v0_) ∧ Kd.R k51 51 w' w.heap.size (fun _ => True) v0_ r ∧ Below w.heap.size w w' := by
 have hu51 := Try.underlying51
 have HR0 := Aside0.mk hr0
 have HC0 := Aside0.mk hc0
 clear hr0 hc0
 have HB := Aside0.mk (Below.refl w.heap.size w)
 have H : (spec_poDerive.l0 k a1 ([] : List (S51)) l0 (l0.length : Int) 0) = some r := h
 clear h
 have H' := Aside0.mk H
 clear H
 go_enter Try.func60, Try.ntmps60
 go_wp2
 go_loopg [5, 12] k (fun kq v5 v12 w' => ∃ (x5_1 : List (S51)) (x12_1 : Int), v12 = .int .i64 x12_1 ∧ Aside0 (spec_poDerive.l0 kq a1 x5_1 l0 (l0.length : Int) x12_1 = some r) ∧ Aside0 (kq ≤ k) ∧ Aside0 (Kd.R k51 51 w' w.heap.size (fun _ => True) v5 x5_1) ∧ Aside0 (Below w.heap.size w w'))
 case atStart => exact ⟨(([] : List (S51))), (0), (by first | rfl | (simp; done) | (simp [*]; done)), H', ⟨Nat.le_refl _⟩, ⟨by first | exact Kd.R_nil _ _ _ _ _ | exact Kd.N_nil _ _ _ _ _ | exact Kd.V_nil _ _ _ _ _ | exact Kd.Q_nil _ _ _ _ _ | exact Kd.S_nil _ _ _ _ _⟩, ⟨(zb0 HB)⟩⟩
 case round =>
  clear H'
  try clear p2
  obtain ⟨x5_1, x12_1, rfl, HA, HK1, HO_5, HB⟩ := hrel
  cases gk with
  | zero => exact absurd HA.out (by simp [spec_poDerive.l0])
  | succ k1 =>
   have H := HA.out
   clear HA
   simp only [spec_poDerive.l0] at H
   by_cases c3 : x12_1 < (l0.length : Int)
   ·
    rw [if_pos c3] at H
    have c3b0 : decide (x12_1 < (l0.length : Int)) = true := decide_eq_true c3
    clear c3
    by_cases c4 : 0 ≤ x12_1
    ·
     rw [if_pos c4] at H
     have c4b0 : decide (0 ≤ x12_1) = true := decide_eq_true c4
     clear c4
     by_cases c5 : x12_1 < (l0.length : Int)
     ·
      rw [if_pos c5] at H
      have c5b0 : decide (x12_1 < (l0.length : Int)) = true := decide_eq_true c5
      clear c5
      replace H := Option.bind_eq_some_iff.mp H
      obtain ⟨t415, A60, H⟩ := H
      replace H : (if t415 > 0 then ((spec_poWith.f ((rd_T51 l0 x12_1).f0) ((rd_T51 l0 x12_1).f1) ((rd_T51 l0 x12_1).f2) ((rd_T51 l0 x12_1).f3) a1 (wrap64 (t415 - 1))).bind fun bt416 => (if x5_1.length < 4398046511104 then (spec_poDerive.l0 k1 a1 (x5_1 ++ [(⟨wrap64 (bt416.1 * t415), bt416.2.1, bt416.2.2.1, bt416.2.2.2⟩ : S51)]) l0 (l0.length : Int) (wrap64 (x12_1 + 1))) else (none))) else (spec_poDerive.l0 k1 a1 x5_1 l0 (l0.length : Int) (wrap64 (x12_1 + 1)))) = some r := H
      have A6 := Aside0.mk A60
      clear A60
      by_cases c7 : t415 > 0
      ·
       rw [if_pos c7] at H
       have c7b0 : decide (0 < t415) = true := decide_eq_true c7
       clear c7
       replace H := Option.bind_eq_some_iff.mp H
       obtain ⟨⟨t416, t417, t418, t419⟩, A80, H⟩ := H
       replace H : (if x5_1.length < 4398046511104 then (spec_poDerive.l0 k1 a1 (x5_1 ++ [(⟨wrap64 (t416 * t415), t417, t418, t419⟩ : S51)]) l0 (l0.length : Int) (wrap64 (x12_1 + 1))) else (none)) = some r := H
       have A8 := Aside0.mk A80
       clear A80
       by_cases c9 : x5_1.length < 4398046511104
       ·
        rw [if_pos c9] at H
        have LMc9 := Aside0.mk c9
        clear c9
        obtain ⟨y421, hy421⟩ : ∃ y_ : List (S51), y_ = (x5_1 ++ [(⟨wrap64 (t416 * t415), t417, t418, t419⟩ : S51)]) := ⟨_, rfl⟩
        replace H : (spec_poDerive.l0 k1 a1 y421 l0 (l0.length : Int) (wrap64 (x12_1 + 1))) = some r := by first | (rw [hy421]; with_reducible exact H) | (have H2_ := (Option.bind_some _ _).symm.trans H; rw [hy421]; with_reducible exact H2_) | (have H2_ := (Option.bind_some _ _).symm.trans H; with_reducible exact H2_) | with_reducible exact H | (rw [hy421]; exact H) | exact H
        have Ny421 := Aside0.mk hy421
        clear hy421
        have H' := Aside0.mk H
        clear H
        have p413 : 0 ≤ (x12_1 : Int) := of_decide_eq_true (by first | (with_reducible assumption) | assumption)
        have q413 : x12_1 < (l0.length : Int) := of_decide_eq_true (by first | (with_reducible assumption) | assumption)
        obtain ⟨ad413, e413, hx413_0, hx413_1, hx413_2, hx413_3⟩ := at_T51 HR0.out x12_1 p413 q413
        cases e413
        replace hx413_0 := pw_cell_below HB.out hx413_0
        replace hx413_1 := pw_cell_below HB.out hx413_1
        replace hx413_2 := pw_cell_below HB.out hx413_2
        replace hx413_3 := pw_cell_below HB.out hx413_3
        replace p413 := eq_true p413
        replace q413 := eq_true q413
        go_wp2_with (first | ((with_reducible refine gate_dst (N := 7) rfl ?_); refine zbe (N := 7) (cs := #[.int .i64 0, .int .i64 0, .int .i64 0, .int .i64 0]) (t := 51) ?_; intro gb414 hg w10 hbox hb; have BK414 := Aside0.mk (hbox); have GW414 := Aside0.mk (zge (zb0 HB) hg); have GE414 := GW414; replace HO_5 := Aside0.mk (Kd.R_below (Kd.R_elderB (zq3 HO_5) gb414 (Nat.le_of_eq hg.symm)) hb); replace HB := Aside0.mk (below_step (zb0 HB) hb); clear hb hbox hg; have hcz11_0 : w10.cell? ⟨gb414, 0, none⟩ = some (.int .i64 0) := zc BK414 0; have hcz11_1 : w10.cell? ⟨gb414, 1, none⟩ = some (.int .i64 0) := zc BK414 1; have hcz11_2 : w10.cell? ⟨gb414, 2, none⟩ = some (.int .i64 0) := zc BK414 2; have hcz11_3 : w10.cell? ⟨gb414, 3, none⟩ = some (.int .i64 0) := zc BK414 3; have hfz11_0 := blk_frozen BK414.out 0; have hfz11_1 := blk_frozen BK414.out 1; have hfz11_2 := blk_frozen BK414.out 2; have hfz11_3 := blk_frozen BK414.out 3) | ((with_reducible refine gate_callee (f := 71) rfl ?_); refine goesL_ (some 18) rfl rfl Try.func71 (by kernel_rfl) rfl #[.agg #[.int .i64 ((rd_T51 l0 x12_1).f0), .int .i64 ((rd_T51 l0 x12_1).f1), .int .i64 ((rd_T51 l0 x12_1).f2), .int .i64 ((rd_T51 l0 x12_1).f3)], .int .i64 a1] rfl zq6 ?_; (with_reducible refine (spec_poPower.calls ((rd_T51 l0 x12_1).f0) ((rd_T51 l0 x12_1).f1) ((rd_T51 l0 x12_1).f2) ((rd_T51 l0 x12_1).f3) a1 t415 _ A6.out).mono ?_); rintro e w12 ⟨rfl, hb⟩; refine ⟨_, rfl, ?_⟩; replace HO_5 := Aside0.mk (Kd.R_below (by (with_reducible repeat (first | apply Kd.R_alloc | apply Kd.R_drewN | apply Kd.R_drew)); exact (Kd.R_mono (Kd.R_far (p := ⟨gb414, 3, none⟩) (Kd.R_far (p := ⟨gb414, 2, none⟩) (Kd.R_far (p := ⟨gb414, 1, none⟩) (Kd.R_far (p := ⟨gb414, 0, none⟩) (Kd.R_mono HO_5.out (fun k_ hk => (⟨hk, hk.2⟩ : _ ∧ k_ ≠ gb414))) (fun _ hk => hk.2) (.int .i64 ((rd_T51 l0 x12_1).f0))) (fun _ hk => hk.2) (.int .i64 ((rd_T51 l0 x12_1).f1))) (fun _ hk => hk.2) (.int .i64 ((rd_T51 l0 x12_1).f2))) (fun _ hk => hk.2) (.int .i64 ((rd_T51 l0 x12_1).f3))) (fun _ h_ => h_.1))) hb); replace BK414 := Aside0.mk (blk_below (g := gb414) (o := .cells #[.int .i64 ((rd_T51 l0 x12_1).f0), .int .i64 ((rd_T51 l0 x12_1).f1), .int .i64 ((rd_T51 l0 x12_1).f2), .int .i64 ((rd_T51 l0 x12_1).f3)] 51 (0, 0)) (by (with_reducible repeat (first | refine blk_drewN ?_ _ | refine blk_drew ?_ | refine blk_alloc ?_ _)); refine blk_put (cs := #[.int .i64 ((rd_T51 l0 x12_1).f0), .int .i64 ((rd_T51 l0 x12_1).f1), .int .i64 ((rd_T51 l0 x12_1).f2), .int .i64 0]) ?_ 3 _ rfl; (with_reducible repeat (first | refine blk_drewN ?_ _ | refine blk_drew ?_ | refine blk_alloc ?_ _)); refine blk_put (cs := #[.int .i64 ((rd_T51 l0 x12_1).f0), .int .i64 ((rd_T51 l0 x12_1).f1), .int .i64 0, .int .i64 0]) ?_ 2 _ rfl; (with_reducible repeat (first | refine blk_drewN ?_ _ | refine blk_drew ?_ | refine blk_alloc ?_ _)); refine blk_put (cs := #[.int .i64 ((rd_T51 l0 x12_1).f0), .int .i64 0, .int .i64 0, .int .i64 0]) ?_ 1 _ rfl; (with_reducible repeat (first | refine blk_drewN ?_ _ | refine blk_drew ?_ | refine blk_alloc ?_ _)); refine blk_put (cs := #[.int .i64 0, .int .i64 0, .int .i64 0, .int .i64 0]) ?_ 0 _ rfl; (with_reducible repeat (first | refine blk_drewN ?_ _ | refine blk_drew ?_ | refine blk_alloc ?_ _)); exact BK414.out) hb); replace HB := Aside0.mk (below_step (zb1 HB) hb); (try clear hb); (try clear hb2); (try clear hk); (try clear hi); have hcz13_0 : w12.cell? ⟨gb414, 0, none⟩ = some (.int .i64 ((rd_T51 l0 x12_1).f0)) := zc BK414 0; have hcz13_1 : w12.cell? ⟨gb414, 1, none⟩ = some (.int .i64 ((rd_T51 l0 x12_1).f1)) := zc BK414 1; have hcz13_2 : w12.cell? ⟨gb414, 2, none⟩ = some (.int .i64 ((rd_T51 l0 x12_1).f2)) := zc BK414 2; have hcz13_3 : w12.cell? ⟨gb414, 3, none⟩ = some (.int .i64 ((rd_T51 l0 x12_1).f3)) := zc BK414 3; have hfz13_0 := blk_frozen BK414.out 0; have hfz13_1 := blk_frozen BK414.out 1; have hfz13_2 := blk_frozen BK414.out 2; have hfz13_3 := blk_frozen BK414.out 3) | ((with_reducible refine gate_callee (f := 70) rfl ?_); refine goesL_ (some 25) rfl rfl Try.func70 (by kernel_rfl) rfl #[.agg #[.int .i64 ((rd_T51 l0 x12_1).f0), .int .i64 ((rd_T51 l0 x12_1).f1), .int .i64 ((rd_T51 l0 x12_1).f2), .int .i64 ((rd_T51 l0 x12_1).f3)], .int .i64 a1, .int .i64 (wrap64 (t415 - 1))] rfl zq6 ?_; (with_reducible refine (spec_poWith.calls ((rd_T51 l0 x12_1).f0) ((rd_T51 l0 x12_1).f1) ((rd_T51 l0 x12_1).f2) ((rd_T51 l0 x12_1).f3) a1 (wrap64 (t415 - 1)) t416 t417 t418 t419 _ A8.out).mono ?_); rintro e w14 ⟨rfl, hb⟩; refine ⟨_, rfl, ?_⟩; replace HO_5 := Aside0.mk (Kd.R_below (zq3 HO_5) hb); replace BK414 := Aside0.mk (zbb BK414 hb); replace HB := Aside0.mk (below_step (zb1 HB) hb); (try clear hb); (try clear hb2); (try clear hk); (try clear hi)) | ((with_reducible refine gate_dst (N := 9) rfl ?_); refine zbe (N := 9) (cs := #[.int .i64 0, .int .i64 0, .int .i64 0, .int .i64 0]) (t := 51) ?_; intro gb420 hg w15 hbox hb; have BK420 := Aside0.mk (hbox); have GW420 := Aside0.mk (zge (zb1 HB) hg); have GE420 := GW420; have NB414_420 := Aside0.mk (zlt BK414 hg); have NB420_414 := Aside0.mk (zgt BK414 hg); replace HO_5 := Aside0.mk (Kd.R_below (Kd.R_elderB (zq3 HO_5) gb420 (Nat.le_of_eq hg.symm)) hb); replace BK414 := Aside0.mk (zbb BK414 hb); replace HB := Aside0.mk (below_step (zb1 HB) hb); clear hb hbox hg; have hnb16 := NB420_414.out; have hnc16 := NB414_420.out; have hcz17_0 : w15.cell? ⟨gb420, 0, none⟩ = some (.int .i64 0) := zc BK420 0; have hcz17_1 : w15.cell? ⟨gb420, 1, none⟩ = some (.int .i64 0) := zc BK420 1; have hcz17_2 : w15.cell? ⟨gb420, 2, none⟩ = some (.int .i64 0) := zc BK420 2; have hcz17_3 : w15.cell? ⟨gb420, 3, none⟩ = some (.int .i64 0) := zc BK420 3; have hfz17_0 := blk_frozen BK420.out 0; have hfz17_1 := blk_frozen BK420.out 1; have hfz17_2 := blk_frozen BK420.out 2; have hfz17_3 := blk_frozen BK420.out 3) | ((with_reducible refine gate_builtin (b := .append) (xs := #[.tmp 31, .tmp 33]) rfl ?_); at_builtin; refine Kd.R_append k51 (w0 := w) w.heap.size rfl (.tmp 31) (.tmp 33) 25 51 (.agg #[(.int .i64 0), (.int .i64 0), (.int .i64 0), (.int .i64 0)]) 32 rfl Try.underlying25 info51 rfl (by decide) (by omega) u5 x5_1 (⟨wrap64 (t416 * t415), t417, t418, t419⟩ : S51) [.int .i64 (wrap64 (t416 * t415)), .int .i64 t417, .int .i64 t418, .int .i64 t419] (fun k_ => k_ ≠ gb414 ∧ k_ ≠ gb420) (fun _ => False) rfl (by first | (go_simp; done) | (go_simp; rfl)) ?aP (fun _ hk => hk.elim) ?aF ?aO ?aB ?aS ?aL ?_; (case aP => exact k51_mkM _ _ _ (⟨wrap64 (t416 * t415), t417, t418, t419⟩ : S51)); (case aB => exact (zb1 HB)); (case aF => exact (fun k_ hk => ⟨Kd.freshB (g := gb414) (o := .cells #[.int .i64 ((rd_T51 l0 x12_1).f0), .int .i64 ((rd_T51 l0 x12_1).f1), .int .i64 ((rd_T51 l0 x12_1).f2), .int .i64 ((rd_T51 l0 x12_1).f3)] 51 (0, 0)) (zq5 BK414) k_ hk, Kd.freshB (g := gb420) (o := .cells #[.int .i64 (wrap64 (t416 * t415)), .int .i64 t417, .int .i64 t418, .int .i64 t419] 51 (0, 0)) (by (with_reducible repeat (first | refine blk_drewN ?_ _ | refine blk_drew ?_ | refine blk_alloc ?_ _)); refine blk_put (cs := #[.int .i64 t416, .int .i64 t417, .int .i64 t418, .int .i64 t419]) ?_ 0 _ rfl; (with_reducible repeat (first | refine blk_drewN ?_ _ | refine blk_drew ?_ | refine blk_alloc ?_ _)); refine blk_put (cs := #[.int .i64 t416, .int .i64 t417, .int .i64 t418, .int .i64 0]) ?_ 3 _ rfl; (with_reducible repeat (first | refine blk_drewN ?_ _ | refine blk_drew ?_ | refine blk_alloc ?_ _)); refine blk_put (cs := #[.int .i64 t416, .int .i64 t417, .int .i64 0, .int .i64 0]) ?_ 2 _ rfl; (with_reducible repeat (first | refine blk_drewN ?_ _ | refine blk_drew ?_ | refine blk_alloc ?_ _)); refine blk_put (cs := #[.int .i64 t416, .int .i64 0, .int .i64 0, .int .i64 0]) ?_ 1 _ rfl; (with_reducible repeat (first | refine blk_drewN ?_ _ | refine blk_drew ?_ | refine blk_alloc ?_ _)); refine blk_put (cs := #[.int .i64 0, .int .i64 0, .int .i64 0, .int .i64 0]) ?_ 0 _ rfl; (with_reducible repeat (first | refine blk_drewN ?_ _ | refine blk_drew ?_ | refine blk_alloc ?_ _)); exact BK420.out) k_ hk⟩)); (case aO => exact (by (with_reducible repeat (first | apply Kd.R_alloc | apply Kd.R_drewN | apply Kd.R_drew)); exact Kd.R_mono (Kd.R_far (p := ⟨gb420, 0, none⟩) (Kd.R_far (p := ⟨gb420, 3, none⟩) (Kd.R_far (p := ⟨gb420, 2, none⟩) (Kd.R_far (p := ⟨gb420, 1, none⟩) (Kd.R_far (p := ⟨gb420, 0, none⟩) (Kd.R_mono HO_5.out (fun k_ hk => (⟨hk, hk.2⟩ : _ ∧ k_ ≠ gb420))) (fun _ hk => hk.2) (.int .i64 t416)) (fun _ hk => hk.2) (.int .i64 t417)) (fun _ hk => hk.2) (.int .i64 t418)) (fun _ hk => hk.2) (.int .i64 t419)) (fun _ hk => hk.2) (.int .i64 (wrap64 (t416 * t415)))) (fun _ hk => ⟨hk.1.1.2, hk.1.2⟩))); (case aS => exact (below_size (zb1 HB))); (case aL => have := LMc9.out; omega); intro v422 w18 ho hb hg hat; rw [← Ny421.out] at ho; have HO423 := Aside0.mk (ho); replace BK414 := Aside0.mk (blk_grown (g := gb414) (o := .cells #[.int .i64 ((rd_T51 l0 x12_1).f0), .int .i64 ((rd_T51 l0 x12_1).f1), .int .i64 ((rd_T51 l0 x12_1).f2), .int .i64 ((rd_T51 l0 x12_1).f3)] 51 (0, 0)) (zq5 BK414) hg (Kd.R_away HO_5.out (fun _ hk => hk.1.2))); replace BK420 := Aside0.mk (blk_grown (g := gb420) (o := .cells #[.int .i64 (wrap64 (t416 * t415)), .int .i64 t417, .int .i64 t418, .int .i64 t419] 51 (0, 0)) (by (with_reducible repeat (first | refine blk_drewN ?_ _ | refine blk_drew ?_ | refine blk_alloc ?_ _)); refine blk_put (cs := #[.int .i64 t416, .int .i64 t417, .int .i64 t418, .int .i64 t419]) ?_ 0 _ rfl; (with_reducible repeat (first | refine blk_drewN ?_ _ | refine blk_drew ?_ | refine blk_alloc ?_ _)); refine blk_put (cs := #[.int .i64 t416, .int .i64 t417, .int .i64 t418, .int .i64 0]) ?_ 3 _ rfl; (with_reducible repeat (first | refine blk_drewN ?_ _ | refine blk_drew ?_ | refine blk_alloc ?_ _)); refine blk_put (cs := #[.int .i64 t416, .int .i64 t417, .int .i64 0, .int .i64 0]) ?_ 2 _ rfl; (with_reducible repeat (first | refine blk_drewN ?_ _ | refine blk_drew ?_ | refine blk_alloc ?_ _)); refine blk_put (cs := #[.int .i64 t416, .int .i64 0, .int .i64 0, .int .i64 0]) ?_ 1 _ rfl; (with_reducible repeat (first | refine blk_drewN ?_ _ | refine blk_drew ?_ | refine blk_alloc ?_ _)); refine blk_put (cs := #[.int .i64 0, .int .i64 0, .int .i64 0, .int .i64 0]) ?_ 0 _ rfl; (with_reducible repeat (first | refine blk_drewN ?_ _ | refine blk_drew ?_ | refine blk_alloc ?_ _)); exact BK420.out) hg (Kd.R_away HO_5.out (fun _ hk => hk.2))); replace HB := Aside0.mk (hb); clear HO_5; clear ho hb hg hat))
        go_roundg k1
        case measure => have := HK1.out; omega
        case rel => exact ⟨(y421), (wrap64 (x12_1 + 1)), (by first | rfl | (simp; done) | (simp [*]; done)), H', ⟨by have := HK1.out; omega⟩, ⟨by (with_reducible repeat (first | apply Kd.R_alloc | apply Kd.R_drewN | apply Kd.R_drew)); exact Kd.R_mono HO423.out (fun _ hk => trivial)⟩, ⟨(zb1 HB)⟩⟩
       ·
        rw [if_neg c9] at H
        exact absurd H (by simp)
      ·
       rw [if_neg c7] at H
       have c7b0 : decide (0 < t415) = false := decide_eq_false c7
       clear c7
       have H' := Aside0.mk H
       clear H
       have p413 : 0 ≤ (x12_1 : Int) := of_decide_eq_true (by first | (with_reducible assumption) | assumption)
       have q413 : x12_1 < (l0.length : Int) := of_decide_eq_true (by first | (with_reducible assumption) | assumption)
       obtain ⟨ad413, e413, hx413_0, hx413_1, hx413_2, hx413_3⟩ := at_T51 HR0.out x12_1 p413 q413
       cases e413
       replace hx413_0 := pw_cell_below HB.out hx413_0
       replace hx413_1 := pw_cell_below HB.out hx413_1
       replace hx413_2 := pw_cell_below HB.out hx413_2
       replace hx413_3 := pw_cell_below HB.out hx413_3
       replace p413 := eq_true p413
       replace q413 := eq_true q413
       go_wp2_with (first | ((with_reducible refine gate_dst (N := 7) rfl ?_); refine zbe (N := 7) (cs := #[.int .i64 0, .int .i64 0, .int .i64 0, .int .i64 0]) (t := 51) ?_; intro gb414 hg w19 hbox hb; have BK414 := Aside0.mk (hbox); have GW414 := Aside0.mk (zge (zb0 HB) hg); have GE414 := GW414; replace HO_5 := Aside0.mk (Kd.R_below (Kd.R_elderB (zq3 HO_5) gb414 (Nat.le_of_eq hg.symm)) hb); replace HB := Aside0.mk (below_step (zb0 HB) hb); clear hb hbox hg; have hcz20_0 : w19.cell? ⟨gb414, 0, none⟩ = some (.int .i64 0) := zc BK414 0; have hcz20_1 : w19.cell? ⟨gb414, 1, none⟩ = some (.int .i64 0) := zc BK414 1; have hcz20_2 : w19.cell? ⟨gb414, 2, none⟩ = some (.int .i64 0) := zc BK414 2; have hcz20_3 : w19.cell? ⟨gb414, 3, none⟩ = some (.int .i64 0) := zc BK414 3; have hfz20_0 := blk_frozen BK414.out 0; have hfz20_1 := blk_frozen BK414.out 1; have hfz20_2 := blk_frozen BK414.out 2; have hfz20_3 := blk_frozen BK414.out 3) | ((with_reducible refine gate_callee (f := 71) rfl ?_); refine goesL_ (some 18) rfl rfl Try.func71 (by kernel_rfl) rfl #[.agg #[.int .i64 ((rd_T51 l0 x12_1).f0), .int .i64 ((rd_T51 l0 x12_1).f1), .int .i64 ((rd_T51 l0 x12_1).f2), .int .i64 ((rd_T51 l0 x12_1).f3)], .int .i64 a1] rfl zq6 ?_; (with_reducible refine (spec_poPower.calls ((rd_T51 l0 x12_1).f0) ((rd_T51 l0 x12_1).f1) ((rd_T51 l0 x12_1).f2) ((rd_T51 l0 x12_1).f3) a1 t415 _ A6.out).mono ?_); rintro e w21 ⟨rfl, hb⟩; refine ⟨_, rfl, ?_⟩; replace HO_5 := Aside0.mk (Kd.R_below (by (with_reducible repeat (first | apply Kd.R_alloc | apply Kd.R_drewN | apply Kd.R_drew)); exact (Kd.R_mono (Kd.R_far (p := ⟨gb414, 3, none⟩) (Kd.R_far (p := ⟨gb414, 2, none⟩) (Kd.R_far (p := ⟨gb414, 1, none⟩) (Kd.R_far (p := ⟨gb414, 0, none⟩) (Kd.R_mono HO_5.out (fun k_ hk => (⟨hk, hk.2⟩ : _ ∧ k_ ≠ gb414))) (fun _ hk => hk.2) (.int .i64 ((rd_T51 l0 x12_1).f0))) (fun _ hk => hk.2) (.int .i64 ((rd_T51 l0 x12_1).f1))) (fun _ hk => hk.2) (.int .i64 ((rd_T51 l0 x12_1).f2))) (fun _ hk => hk.2) (.int .i64 ((rd_T51 l0 x12_1).f3))) (fun _ h_ => h_.1))) hb); replace BK414 := Aside0.mk (blk_below (g := gb414) (o := .cells #[.int .i64 ((rd_T51 l0 x12_1).f0), .int .i64 ((rd_T51 l0 x12_1).f1), .int .i64 ((rd_T51 l0 x12_1).f2), .int .i64 ((rd_T51 l0 x12_1).f3)] 51 (0, 0)) (by (with_reducible repeat (first | refine blk_drewN ?_ _ | refine blk_drew ?_ | refine blk_alloc ?_ _)); refine blk_put (cs := #[.int .i64 ((rd_T51 l0 x12_1).f0), .int .i64 ((rd_T51 l0 x12_1).f1), .int .i64 ((rd_T51 l0 x12_1).f2), .int .i64 0]) ?_ 3 _ rfl; (with_reducible repeat (first | refine blk_drewN ?_ _ | refine blk_drew ?_ | refine blk_alloc ?_ _)); refine blk_put (cs := #[.int .i64 ((rd_T51 l0 x12_1).f0), .int .i64 ((rd_T51 l0 x12_1).f1), .int .i64 0, .int .i64 0]) ?_ 2 _ rfl; (with_reducible repeat (first | refine blk_drewN ?_ _ | refine blk_drew ?_ | refine blk_alloc ?_ _)); refine blk_put (cs := #[.int .i64 ((rd_T51 l0 x12_1).f0), .int .i64 0, .int .i64 0, .int .i64 0]) ?_ 1 _ rfl; (with_reducible repeat (first | refine blk_drewN ?_ _ | refine blk_drew ?_ | refine blk_alloc ?_ _)); refine blk_put (cs := #[.int .i64 0, .int .i64 0, .int .i64 0, .int .i64 0]) ?_ 0 _ rfl; (with_reducible repeat (first | refine blk_drewN ?_ _ | refine blk_drew ?_ | refine blk_alloc ?_ _)); exact BK414.out) hb); replace HB := Aside0.mk (below_step (zb1 HB) hb); (try clear hb); (try clear hb2); (try clear hk); (try clear hi)))
       go_roundg k1
       case measure => have := HK1.out; omega
       case rel => exact ⟨(x5_1), (wrap64 (x12_1 + 1)), (by first | rfl | (simp; done) | (simp [*]; done)), H', ⟨by have := HK1.out; omega⟩, ⟨by (with_reducible repeat (first | apply Kd.R_alloc | apply Kd.R_drewN | apply Kd.R_drew)); exact Kd.R_mono HO_5.out (fun _ hk => trivial)⟩, ⟨(zb1 HB)⟩⟩
     ·
      rw [if_neg c5] at H
      exact absurd H (by simp)
    ·
     rw [if_neg c4] at H
     exact absurd H (by simp)
   ·
    rw [if_neg c3] at H
    have c3b0 : decide (x12_1 < (l0.length : Int)) = false := decide_eq_false c3
    clear c3
    obtain rfl := Option.some.inj H
    go_wp2
    go_ret
    exact ⟨_, by first | rfl | (simp [errW_none, errW_some] <;> rfl) | (simp [*, errW_none, errW_some] <;> rfl), by (with_reducible repeat (first | apply Kd.R_alloc | apply Kd.R_drewN | apply Kd.R_drew)); exact HO_5.out, (zb0 HB)⟩
/-! ### spec_DerivePoly: function 25 -/
set_option maxHeartbeats 8000000 in
set_option maxRecDepth 100000 in
theorem spec_DerivePoly.calls (k : Nat) (A0 : Option Addr) (c0 : Nat) (l0 : List (S51)) (a1 : Int) (r1 : List (S51)) (r2 : Bool) (w : World) (hr0 : Kd.C k51 w A0 l0.length l0) (hc0 : l0.length ≤ c0) (h : spec_DerivePoly.f k l0 a1 = some (r1, r2)) :
  Calls Try.prog 25 #[.slice A0 l0.length c0, .int .i64 a1] w fun e w' => ∃ v0_ : Value, e = .returned (.tuple #[v0_, .bool r2]) ∧ Kd.R k51 51 w' w.heap.size (fun _ => True) v0_ r1 ∧ Below w.heap.size w w' := by
 have HR0 := Aside0.mk hr0
 have HC0 := Aside0.mk hc0
 clear hr0 hc0
 have HB := Aside0.mk (Below.refl w.heap.size w)
 have H : ((spec_poGood.f k l0).bind fun t424 => (if t424 = true then ((spec_poUnknown.f a1).bind fun t425 => (spec_DerivePoly.j0 k l0 a1 (!t425))) else (spec_DerivePoly.j0 k l0 a1 true))) = some (r1, r2) := h
 clear h
 have HC3 := Aside0.mk H
 clear H
 go_enter Try.func25, Try.ntmps25
 go_upto_region 1 with (fail)
 go_cut [13] (fun v13 wc => ∃ (kq : Nat) (x13_2 : Bool), v13 = .bool x13_2 ∧ Aside0 (spec_DerivePoly.j0 kq l0 a1 x13_2 = some (r1, r2)) ∧ Aside0 (kq ≤ k) ∧ Aside0 (Below w.heap.size w wc))
 case first =>
  have H := HC3.out
  clear HC3
  replace H := Option.bind_eq_some_iff.mp H
  obtain ⟨t424, A40, H⟩ := H
  replace H : (if t424 = true then ((spec_poUnknown.f a1).bind fun t425 => (spec_DerivePoly.j0 k l0 a1 (!t425))) else (spec_DerivePoly.j0 k l0 a1 true)) = some (r1, r2) := H
  have A4 := Aside0.mk A40
  clear A40
  by_cases c5 : t424 = true
  ·
   subst c5
   have H1 : ((spec_poUnknown.f a1).bind fun t425 => (spec_DerivePoly.j0 k l0 a1 (!t425))) = some (r1, r2) := by rw [if_pos rfl] at H; exact H
   clear H
   have H := H1
   clear H1
   replace H := Option.bind_eq_some_iff.mp H
   obtain ⟨t425, A60, H⟩ := H
   replace H : (spec_DerivePoly.j0 k l0 a1 (!t425)) = some (r1, r2) := H
   have A6 := Aside0.mk A60
   clear A60
   have H' := Aside0.mk H
   clear H
   go_wp2_with (first | ((with_reducible refine gate_callee (f := 33) rfl ?_); refine goesL_ (some 7) rfl rfl Try.func33 (by kernel_rfl) rfl #[.slice A0 l0.length c0] rfl zq6 ?_; (with_reducible refine (spec_poGood.calls k _ _ l0 true _ ?side1 ?side2 A4.out).mono ?_); (case side1 => repeat (first | exact (Kd.C_below HR0.out HB.out) | (with_reducible refine Kd.C_alloc ?_ _) | (with_reducible refine Kd.C_drewN ?_ _) | (with_reducible refine Kd.C_drew ?_))); (case side2 => exact HC0.out); rintro e w7 ⟨rfl, hb⟩; refine ⟨_, rfl, ?_⟩; replace HB := Aside0.mk (below_step (zb0 HB) hb); (try clear hb); (try clear hb2); (try clear hk); (try clear hi)) | (go_at_call 58; (with_reducible refine (spec_poUnknown.calls a1 t425 _ A6.out).mono ?_); rintro e w' ⟨rfl, ⟨nd, rfl⟩⟩))
   go_meet
   case rel => exact ⟨_, (!t425), (by first | rfl | (simp; done) | (simp [*]; done)), H', ⟨by first | omega | exact Nat.le_refl _⟩, ⟨(zb0 HB)⟩⟩
  ·
   replace c5 := Bool.eq_false_iff.mpr c5
   subst c5
   have H1 : (spec_DerivePoly.j0 k l0 a1 true) = some (r1, r2) := by rw [if_neg (show ¬ (false = true) by decide)] at H; exact H
   clear H
   have H := H1
   clear H1
   have H' := Aside0.mk H
   clear H
   go_wp2_with (first | ((with_reducible refine gate_callee (f := 33) rfl ?_); refine goesL_ (some 7) rfl rfl Try.func33 (by kernel_rfl) rfl #[.slice A0 l0.length c0] rfl zq6 ?_; (with_reducible refine (spec_poGood.calls k _ _ l0 false _ ?side1 ?side2 A4.out).mono ?_); (case side1 => repeat (first | exact (Kd.C_below HR0.out HB.out) | (with_reducible refine Kd.C_alloc ?_ _) | (with_reducible refine Kd.C_drewN ?_ _) | (with_reducible refine Kd.C_drew ?_))); (case side2 => exact HC0.out); rintro e w8 ⟨rfl, hb⟩; refine ⟨_, rfl, ?_⟩; replace HB := Aside0.mk (below_step (zb0 HB) hb); (try clear hb); (try clear hb2); (try clear hk); (try clear hi)))
   go_meet
   case rel => exact ⟨_, (true), (by first | rfl | (simp; done) | (simp [*]; done)), H', ⟨by first | omega | exact Nat.le_refl _⟩, ⟨(zb0 HB)⟩⟩
 case rest =>
  clear HC3
  try clear c2
  try clear p2
  try clear c3
  try clear c5
  obtain ⟨kq, x13_2, rfl, HA, HJ2, HB⟩ := hcut
  cases kq with
  | zero => exact absurd HA.out (by simp [spec_DerivePoly.j0])
  | succ kj2 =>
   have H := HA.out
   clear HA
   simp only [spec_DerivePoly.j0] at H
   by_cases c9 : x13_2 = true
   ·
    subst c9
    have H1 : (some (([] : List (S51)), false)) = some (r1, r2) := by rw [if_pos rfl] at H; exact H
    clear H
    have H := H1
    clear H1
    simp only [Option.some.injEq, Prod.mk.injEq] at H
    obtain ⟨rfl, rfl⟩ := H
    go_wp2
    go_ret2
    exact ⟨_, by first | rfl | (simp [errW_none, errW_some] <;> rfl) | (simp [*, errW_none, errW_some] <;> rfl), by first | exact Kd.R_nil _ _ _ _ _ | exact Kd.N_nil _ _ _ _ _ | exact Kd.V_nil _ _ _ _ _ | exact Kd.Q_nil _ _ _ _ _ | exact Kd.S_nil _ _ _ _ _, (zb0 HB)⟩
   ·
    replace c9 := Bool.eq_false_iff.mpr c9
    subst c9
    have H1 : ((spec_poDerive.f kj2 l0 a1).bind fun t426 => ((spec_poSum.f kj2 t426).bind fun bt429 => (some (bt429.1, bt429.2)))) = some (r1, r2) := by rw [if_neg (show ¬ (false = true) by decide)] at H; exact H
    clear H
    have H := H1
    clear H1
    replace H := Option.bind_eq_some_iff.mp H
    obtain ⟨t426, A100, H⟩ := H
    replace H : ((spec_poSum.f kj2 t426).bind fun bt429 => (some (bt429.1, bt429.2))) = some (r1, r2) := H
    have A10 := Aside0.mk A100
    clear A100
    replace H := Option.bind_eq_some_iff.mp H
    obtain ⟨⟨t429, t430⟩, A110, H⟩ := H
    replace H : (some (t429, t430)) = some (r1, r2) := H
    have A11 := Aside0.mk A110
    clear A110
    simp only [Option.some.injEq, Prod.mk.injEq] at H
    obtain ⟨rfl, rfl⟩ := H
    go_wp2_with (first | ((with_reducible refine gate_callee (f := 60) rfl ?_); refine goesL_ (some 16) rfl rfl Try.func60 (by kernel_rfl) rfl #[.slice A0 l0.length c0, .int .i64 a1] rfl zq6 ?_; (with_reducible refine (spec_poDerive.calls kj2 _ _ l0 a1 t426 _ ?side1 ?side2 A10.out).mono ?_); (case side1 => repeat (first | exact (Kd.C_below HR0.out HB.out) | (with_reducible refine Kd.C_alloc ?_ _) | (with_reducible refine Kd.C_drewN ?_ _) | (with_reducible refine Kd.C_drew ?_))); (case side2 => exact HC0.out); rintro e w12 ⟨v427, rfl, ho0, hb⟩; refine ⟨_, rfl, ?_⟩; have HO428 := Aside0.mk (Kd.R_lower ho0 (below_size (zb0 HB))); replace HB := Aside0.mk (below_step (zb0 HB) hb); (try clear hb); (try clear hb2); (try clear hk); (try clear hi); (try clear ho0); obtain ⟨Ao13, co13, eo13⟩ := Kd.R_slice HO428.out; subst eo13) | ((with_reducible refine gate_callee (f := 59) rfl ?_); refine goesL_ (some 17) rfl rfl Try.func59 (by kernel_rfl) rfl #[.slice Ao13 t426.length co13] rfl zq6 ?_; (with_reducible refine (spec_poSum.calls kj2 _ _ t426 t429 t430 _ ?side1 ?side2 A11.out).mono ?_); (case side1 => repeat (first | exact (Kd.R_reads' HO428.out).2.2 | (with_reducible refine Kd.C_alloc ?_ _) | (with_reducible refine Kd.C_drewN ?_ _) | (with_reducible refine Kd.C_drew ?_))); (case side2 => exact (Kd.R_reads' HO428.out).2.1); rintro e w14 ⟨v431, rfl, ho0, hb⟩; refine ⟨_, rfl, ?_⟩; have HO432 := Aside0.mk (Kd.R_lower (Kd.R_new' ho0 (Kd.R_lt (zq3 HO428))) (below_size (zb0 HB))); replace HO428 := Aside0.mk (Kd.R_elder' (zq3 HO428) (Kd.R_base ho0) hb); replace HB := Aside0.mk (below_step (zb0 HB) hb); (try clear hb); (try clear hb2); (try clear hk); (try clear hi); (try clear ho0)))
    go_ret2
    exact ⟨_, by first | rfl | (simp [errW_none, errW_some] <;> rfl) | (simp [*, errW_none, errW_some] <;> rfl), by (with_reducible repeat (first | apply Kd.R_alloc | apply Kd.R_drewN | apply Kd.R_drew)); exact Kd.R_mono HO432.out (fun _ hk => trivial), (zb0 HB)⟩
/-! ### impl_derive: function 62 -/
-- PROOF
set_option maxHeartbeats 8000000 in
set_option maxRecDepth 100000 in
theorem impl_derive.exps (c x y z : Int) (w : World) : Calls Try.prog 44 #[.agg #[.int .i64 c, .int .i64 x, .int .i64 y, .int .i64 z]] w fun e w' => e = .returned (.agg #[.int .i64 x, .int .i64 y, .int .i64 z]) ∧ Below w.heap.size w w' := by
  have hu51 := Try.underlying51
  have HB := Aside0.mk (Below.refl w.heap.size w)
  go_enter Try.func44, Try.ntmps44
  go_wp2_with (first | ((with_reducible refine gate_dst (N := 1) rfl ?_); refine zbe (N := 1) (cs := #[.int .i64 c, .int .i64 x, .int .i64 y, .int .i64 z]) (t := 51) ?_; intro gb1 hg w1 hbox hb; have BK1 := Aside0.mk hbox; have GW1 := Aside0.mk (zge (zb0 HB) hg); replace HB := Aside0.mk (below_step (zb0 HB) hb); clear hb hbox hg) | ((with_reducible refine gate_dst (N := 2) rfl ?_); refine zbe (N := 2) (cs := #[.int .i64 0, .int .i64 0, .int .i64 0]) (t := 59) ?_; intro gb2 hg w2 hbox hb; have BK2 := Aside0.mk hbox; have GW2 := Aside0.mk (zge (zb0 HB) hg); replace BK1 := Aside0.mk (zbb BK1 hb); replace HB := Aside0.mk (below_step (zb0 HB) hb); clear hb hbox hg; have hc1 : w2.cell? ⟨gb1, 1, none⟩ = some (.int .i64 x) := zc BK1 1; have hc2 : w2.cell? ⟨gb1, 2, none⟩ = some (.int .i64 y) := zc BK1 2; have hc3 : w2.cell? ⟨gb1, 3, none⟩ = some (.int .i64 z) := zc BK1 3; have hd0 : w2.cell? ⟨gb2, 0, none⟩ = some (.int .i64 0) := zc BK2 0; have hd1 : w2.cell? ⟨gb2, 1, none⟩ = some (.int .i64 0) := zc BK2 1; have hd2 : w2.cell? ⟨gb2, 2, none⟩ = some (.int .i64 0) := zc BK2 2; have hf0 := blk_frozen BK2.out 0; have hf1 := blk_frozen BK2.out 1; have hf2 := blk_frozen BK2.out 2))
  refine bodyPost_ret (results_cell_row rfl _ _ gb2 59 #[.int .i64 x, .int .i64 y, .int .i64 z] (0, 0) _ rfl (by (with_reducible repeat (first | refine blk_drewN ?_ _ | refine blk_drew ?_ | refine blk_alloc ?_ _)); refine blk_put (cs := #[.int .i64 x, .int .i64 y, .int .i64 0]) ?_ 2 _ rfl; refine blk_put (cs := #[.int .i64 x, .int .i64 0, .int .i64 0]) ?_ 1 _ rfl; refine blk_put (cs := #[.int .i64 0, .int .i64 0, .int .i64 0]) ?_ 0 _ rfl; exact BK2.out) Try.underlying59 rfl (by kernel_rfl)) rfl ?_
  exact ⟨by first | rfl | (simp; done) | (simp [*]; done), (zb1 HB)⟩
set_option maxHeartbeats 8000000 in
set_option maxRecDepth 100000 in
theorem impl_derive.termOf (c x y z : Int) (w : World) : Calls Try.prog 45 #[.int .i64 c, .agg #[.int .i64 x, .int .i64 y, .int .i64 z]] w fun e w' => e = .returned (.agg #[.int .i64 c, .int .i64 x, .int .i64 y, .int .i64 z]) ∧ Below w.heap.size w w' := by
  have hu51 := Try.underlying51
  have hu59 := Try.underlying59
  have HB := Aside0.mk (Below.refl w.heap.size w)
  go_enter Try.func45, Try.ntmps45
  go_wp2_with (first | ((with_reducible refine gate_dst (N := 3) rfl ?_); refine zbe (N := 3) (cs := #[.int .i64 x, .int .i64 y, .int .i64 z]) (t := 59) ?_; intro gb3 hg w3 hbox hb; have BK3 := Aside0.mk hbox; have GW3 := Aside0.mk (zge (zb1 HB) hg); replace HB := Aside0.mk (below_step (zb1 HB) hb); clear hb hbox hg; skip) | ((with_reducible refine gate_dst (N := 4) rfl ?_); refine zbe (N := 4) (cs := #[.int .i64 0, .int .i64 0, .int .i64 0, .int .i64 0]) (t := 51) ?_; intro gb4 hg w4 hbox hb; have BK4 := Aside0.mk hbox; have GW4 := Aside0.mk (zge (zb1 HB) hg); replace BK3 := Aside0.mk (zbb BK3 hb); replace HB := Aside0.mk (below_step (zb1 HB) hb); clear hb hbox hg; have hcza_0 : w4.cell? ⟨gb3, 0, none⟩ = some (.int .i64 x) := zc BK3 0; have hcza_1 : w4.cell? ⟨gb3, 1, none⟩ = some (.int .i64 y) := zc BK3 1; have hcza_2 : w4.cell? ⟨gb3, 2, none⟩ = some (.int .i64 z) := zc BK3 2; have hfza_0 := blk_frozen BK3.out 0; have hfza_1 := blk_frozen BK3.out 1; have hfza_2 := blk_frozen BK3.out 2; have hczb_0 : w4.cell? ⟨gb4, 0, none⟩ = some (.int .i64 0) := zc BK4 0; have hczb_1 : w4.cell? ⟨gb4, 1, none⟩ = some (.int .i64 0) := zc BK4 1; have hczb_2 : w4.cell? ⟨gb4, 2, none⟩ = some (.int .i64 0) := zc BK4 2; have hczb_3 : w4.cell? ⟨gb4, 3, none⟩ = some (.int .i64 0) := zc BK4 3; have hfzb_0 := blk_frozen BK4.out 0; have hfzb_1 := blk_frozen BK4.out 1; have hfzb_2 := blk_frozen BK4.out 2; have hfzb_3 := blk_frozen BK4.out 3))
  refine bodyPost_ret (results_cell_row rfl _ _ gb4 51 #[.int .i64 c, .int .i64 x, .int .i64 y, .int .i64 z] (0, 0) _ rfl (by (with_reducible repeat (first | refine blk_drewN ?_ _ | refine blk_drew ?_ | refine blk_alloc ?_ _)); refine blk_put (cs := #[.int .i64 c, .int .i64 x, .int .i64 y, .int .i64 0]) ?_ 3 _ rfl; refine blk_put (cs := #[.int .i64 c, .int .i64 x, .int .i64 0, .int .i64 0]) ?_ 2 _ rfl; refine blk_put (cs := #[.int .i64 c, .int .i64 0, .int .i64 0, .int .i64 0]) ?_ 1 _ rfl; refine blk_put (cs := #[.int .i64 0, .int .i64 0, .int .i64 0, .int .i64 0]) ?_ 0 _ rfl; exact BK4.out) Try.underlying51 rfl (by kernel_rfl)) rfl ?_
  exact ⟨by first | rfl | (simp; done) | (simp [*]; done), (zb1 HB)⟩
set_option maxHeartbeats 8000000 in
set_option maxRecDepth 100000 in
theorem impl_derive.calls (k : Nat) (A0 : Option Addr) (c0 : Nat) (l0 : List (S51)) (a1 : Int) (r : List (S51)) (w : World) (hr0 : Kd.C k51 w A0 l0.length l0) (hc0 : l0.length ≤ c0) (h : impl_derive.f k l0 a1 = some r) :
    Calls Try.prog 62 #[.slice A0 l0.length c0, .int .i64 a1] w fun e w' => ∃ v0_ : Value, e = .returned (v0_) ∧ Kd.R k51 51 w' w.heap.size (fun _ => True) v0_ r ∧ Below w.heap.size w w' := by
  have hu51 := Try.underlying51
  have hu59 := Try.underlying59
  have HR0 := Aside0.mk hr0
  have HC0 := Aside0.mk hc0
  have HB := Aside0.mk (Below.refl w.heap.size w)
  clear hr0 hc0
  unfold impl_derive.f at h
  by_cases q0 : 0 ≤ a1
  · rw [if_pos q0] at h
    by_cases q2 : a1 ≤ 2
    · rw [if_pos q2] at h
      obtain ⟨aa, haa⟩ : ∃ aa, aa = a1 := ⟨_, rfl⟩
      rw [← haa] at h
      have H' := Aside0.mk h
      clear h
      have hcase : a1 = 0 ∨ a1 = 1 ∨ a1 = 2 := by omega
      clear q0 q2
      rcases hcase with rfl | rfl | rfl
      · go_enter Try.func62, Try.ntmps62
        go_wp2
        go_loopg [5, 12] k (fun kq v5 v12 w' => ∃ (x : List S51) (i : Int), v12 = .int .i64 i ∧ Aside0 (impl_derive.l0 kq l0 aa x i = some r) ∧ Aside0 (kq ≤ k) ∧ Aside0 (Kd.R k51 51 w' w.heap.size (fun _ => True) v5 x) ∧ Aside0 (Below w.heap.size w w'))
        case atStart => exact ⟨[], 0, (by first | rfl | (simp; done) | (simp [*]; done)), H', ⟨Nat.le_refl _⟩, ⟨Kd.R_nil _ _ _ _ _⟩, ⟨(zb0 HB)⟩⟩
        case round =>
          clear H' HB
          obtain ⟨x, i, rfl, HA, HK1, HO, HB⟩ := hrel
          cases gk with
          | zero => exact absurd HA.out (by simp [impl_derive.l0])
          | succ k1 =>
            have H := HA.out
            clear HA
            simp only [impl_derive.l0] at H
            by_cases c : i < (l0.length : Int)
            · rw [if_pos c] at H
              by_cases c' : 0 ≤ i
              · rw [if_pos c'] at H
                by_cases c9 : x.length < 4398046511104
                · rw [if_pos c9] at H
                  have LM := Aside0.mk c9
                  clear c9
                  obtain ⟨m', hm'⟩ : ∃ m', mx (wrap64 ((rd_T51 l0 i).f1 - 1)) 0 = m' := ⟨_, rfl⟩
                  have ht : impl_derive.tm (rd_T51 l0 i) aa = (⟨wrap64 ((rd_T51 l0 i).f0 * (rd_T51 l0 i).f1), m', (rd_T51 l0 i).f2, (rd_T51 l0 i).f3⟩ : S51) := by rw [haa]; simp [impl_derive.tm, hm']
                  rw [ht] at H
                  clear ht
                  obtain ⟨y, hy⟩ : ∃ y_ : List S51, y_ = x ++ [(⟨wrap64 ((rd_T51 l0 i).f0 * (rd_T51 l0 i).f1), m', (rd_T51 l0 i).f2, (rd_T51 l0 i).f3⟩ : S51)] := ⟨_, rfl⟩
                  rw [← hy] at H
                  have Ny := Aside0.mk hy
                  clear hy
                  have H' := Aside0.mk H
                  clear H
                  simp only [mx] at hm'
                  have cb := decide_eq_true c
                  have cb' := decide_eq_true c'
                  obtain ⟨ad, ead, hx0, hx1, hx2, hx3⟩ := at_T51 HR0.out i c' c
                  subst ead
                  replace hx0 := pw_cell_below HB.out hx0
                  replace hx1 := pw_cell_below HB.out hx1
                  replace hx2 := pw_cell_below HB.out hx2
                  replace hx3 := pw_cell_below HB.out hx3
                  have p1 := eq_true c
                  have p2 := eq_true c'
                  clear c c'
                  have HC := Aside0.mk (Below.refl wr.heap.size wr)
                  go_wp2_with (first | ((with_reducible refine gate_dst (N := 7) rfl ?_); refine zbe (N := 7) (cs := #[.int .i64 0, .int .i64 0, .int .i64 0, .int .i64 0]) (t := 51) ?_; intro gb7 hg w7 hbox hb; have BK7 := Aside0.mk hbox; have GW7 := Aside0.mk (zge (zb1 HC) hg); replace HC := Aside0.mk (below_step (zb1 HC) hb); clear hb hbox hg; have hcza_0 : w7.cell? ⟨gb7, 0, none⟩ = some (.int .i64 0) := zc BK7 0; have hcza_1 : w7.cell? ⟨gb7, 1, none⟩ = some (.int .i64 0) := zc BK7 1; have hcza_2 : w7.cell? ⟨gb7, 2, none⟩ = some (.int .i64 0) := zc BK7 2; have hcza_3 : w7.cell? ⟨gb7, 3, none⟩ = some (.int .i64 0) := zc BK7 3; have hfza_0 := blk_frozen BK7.out 0; have hfza_1 := blk_frozen BK7.out 1; have hfza_2 := blk_frozen BK7.out 2; have hfza_3 := blk_frozen BK7.out 3) | ((with_reducible refine gate_callee (f := 44) rfl ?_); refine goesL_ (some 17) rfl rfl Try.func44 (by kernel_rfl) rfl #[.agg #[.int .i64 ((rd_T51 l0 i).f0), .int .i64 ((rd_T51 l0 i).f1), .int .i64 ((rd_T51 l0 i).f2), .int .i64 ((rd_T51 l0 i).f3)]] rfl zq6 ?_; refine (impl_derive.exps (rd_T51 l0 i).f0 (rd_T51 l0 i).f1 (rd_T51 l0 i).f2 (rd_T51 l0 i).f3 _).mono ?_; rintro e w9 ⟨rfl, hb⟩; refine ⟨_, rfl, ?_⟩; replace BK7 := Aside0.mk (blk_below (g := gb7) (o := .cells #[.int .i64 ((rd_T51 l0 i).f0), .int .i64 ((rd_T51 l0 i).f1), .int .i64 ((rd_T51 l0 i).f2), .int .i64 ((rd_T51 l0 i).f3)] 51 (0, 0)) (by (with_reducible repeat (first | refine blk_drewN ?_ _ | refine blk_drew ?_ | refine blk_alloc ?_ _)); refine blk_put (cs := #[.int .i64 ((rd_T51 l0 i).f0), .int .i64 ((rd_T51 l0 i).f1), .int .i64 ((rd_T51 l0 i).f2), .int .i64 0]) ?_ 3 _ rfl; (with_reducible repeat (first | refine blk_drewN ?_ _ | refine blk_drew ?_ | refine blk_alloc ?_ _)); refine blk_put (cs := #[.int .i64 ((rd_T51 l0 i).f0), .int .i64 ((rd_T51 l0 i).f1), .int .i64 0, .int .i64 0]) ?_ 2 _ rfl; (with_reducible repeat (first | refine blk_drewN ?_ _ | refine blk_drew ?_ | refine blk_alloc ?_ _)); refine blk_put (cs := #[.int .i64 ((rd_T51 l0 i).f0), .int .i64 0, .int .i64 0, .int .i64 0]) ?_ 1 _ rfl; (with_reducible repeat (first | refine blk_drewN ?_ _ | refine blk_drew ?_ | refine blk_alloc ?_ _)); refine blk_put (cs := #[.int .i64 0, .int .i64 0, .int .i64 0, .int .i64 0]) ?_ 0 _ rfl; (with_reducible repeat (first | refine blk_drewN ?_ _ | refine blk_drew ?_ | refine blk_alloc ?_ _)); exact BK7.out) hb); replace HC := Aside0.mk (below_step (zb1 HC) hb); clear hb) | (go_at_call 44; refine (impl_derive.exps (rd_T51 l0 i).f0 (rd_T51 l0 i).f1 (rd_T51 l0 i).f2 (rd_T51 l0 i).f3 _).mono ?_; rintro e w9 ⟨rfl, hb⟩; replace BK7 := Aside0.mk (blk_below (g := gb7) (o := .cells #[.int .i64 ((rd_T51 l0 i).f0), .int .i64 ((rd_T51 l0 i).f1), .int .i64 ((rd_T51 l0 i).f2), .int .i64 ((rd_T51 l0 i).f3)] 51 (0, 0)) (by (with_reducible repeat (first | refine blk_drewN ?_ _ | refine blk_drew ?_ | refine blk_alloc ?_ _)); refine blk_put (cs := #[.int .i64 ((rd_T51 l0 i).f0), .int .i64 ((rd_T51 l0 i).f1), .int .i64 ((rd_T51 l0 i).f2), .int .i64 0]) ?_ 3 _ rfl; (with_reducible repeat (first | refine blk_drewN ?_ _ | refine blk_drew ?_ | refine blk_alloc ?_ _)); refine blk_put (cs := #[.int .i64 ((rd_T51 l0 i).f0), .int .i64 ((rd_T51 l0 i).f1), .int .i64 0, .int .i64 0]) ?_ 2 _ rfl; (with_reducible repeat (first | refine blk_drewN ?_ _ | refine blk_drew ?_ | refine blk_alloc ?_ _)); refine blk_put (cs := #[.int .i64 ((rd_T51 l0 i).f0), .int .i64 0, .int .i64 0, .int .i64 0]) ?_ 1 _ rfl; (with_reducible repeat (first | refine blk_drewN ?_ _ | refine blk_drew ?_ | refine blk_alloc ?_ _)); refine blk_put (cs := #[.int .i64 0, .int .i64 0, .int .i64 0, .int .i64 0]) ?_ 0 _ rfl; (with_reducible repeat (first | refine blk_drewN ?_ _ | refine blk_drew ?_ | refine blk_alloc ?_ _)); exact BK7.out) hb); replace HC := Aside0.mk (below_step (zb1 HC) hb); clear hb) | ((with_reducible refine gate_dst (N := 8) rfl ?_); refine zbe (N := 8) (cs := #[.int .i64 0, .int .i64 0, .int .i64 0]) (t := 59) ?_; intro gb8 hg w10 hbox hb; have BK8 := Aside0.mk hbox; have GW8 := Aside0.mk (zge (zb1 HC) hg); have NB87 := Aside0.mk (by rw [hg]; exact Nat.ne_of_gt (blk_lt (zq1 BK7)) : gb8 ≠ gb7); have NB78 := Aside0.mk (Ne.symm NB87.out); replace BK7 := Aside0.mk (zbb BK7 hb); replace HC := Aside0.mk (below_step (zb1 HC) hb); clear hb hbox hg; have hnb := NB87.out; have hnc := NB78.out; have hczc_0 : w10.cell? ⟨gb7, 0, none⟩ = some (.int .i64 ((rd_T51 l0 i).f0)) := zc BK7 0; have hczc_1 : w10.cell? ⟨gb7, 1, none⟩ = some (.int .i64 ((rd_T51 l0 i).f1)) := zc BK7 1; have hczc_2 : w10.cell? ⟨gb7, 2, none⟩ = some (.int .i64 ((rd_T51 l0 i).f2)) := zc BK7 2; have hczc_3 : w10.cell? ⟨gb7, 3, none⟩ = some (.int .i64 ((rd_T51 l0 i).f3)) := zc BK7 3; have hfzc_0 := blk_frozen BK7.out 0; have hfzc_1 := blk_frozen BK7.out 1; have hfzc_2 := blk_frozen BK7.out 2; have hfzc_3 := blk_frozen BK7.out 3; have hczd_0 : w10.cell? ⟨gb8, 0, none⟩ = some (.int .i64 0) := zc BK8 0; have hczd_1 : w10.cell? ⟨gb8, 1, none⟩ = some (.int .i64 0) := zc BK8 1; have hczd_2 : w10.cell? ⟨gb8, 2, none⟩ = some (.int .i64 0) := zc BK8 2; have hfzd_0 := blk_frozen BK8.out 0; have hfzd_1 := blk_frozen BK8.out 1; have hfzd_2 := blk_frozen BK8.out 2))
                  replace HC := Aside0.mk (below_drew1 (zb1 HC : Below wr.heap.size wr (((w10.setCell ⟨gb8, 0, none⟩ (.int .i64 ((rd_T51 l0 i).f1))).setCell ⟨gb8, 1, none⟩ (.int .i64 ((rd_T51 l0 i).f2))).setCell ⟨gb8, 2, none⟩ (.int .i64 ((rd_T51 l0 i).f3)))))
                  replace BK7 := Aside0.mk (blk_drew (by (with_reducible repeat (first | refine blk_drewN ?_ _ | refine blk_drew ?_ | refine blk_alloc ?_ _)); refine blk_far ?_ NB78.out _; (with_reducible repeat (first | refine blk_drewN ?_ _ | refine blk_drew ?_ | refine blk_alloc ?_ _)); refine blk_far ?_ NB78.out _; (with_reducible repeat (first | refine blk_drewN ?_ _ | refine blk_drew ?_ | refine blk_alloc ?_ _)); refine blk_far ?_ NB78.out _; (with_reducible repeat (first | refine blk_drewN ?_ _ | refine blk_drew ?_ | refine blk_alloc ?_ _)); exact BK7.out : (((w10.setCell ⟨gb8, 0, none⟩ (.int .i64 ((rd_T51 l0 i).f1))).setCell ⟨gb8, 1, none⟩ (.int .i64 ((rd_T51 l0 i).f2))).setCell ⟨gb8, 2, none⟩ (.int .i64 ((rd_T51 l0 i).f3))).heap[gb7]? = some (.cells #[.int .i64 ((rd_T51 l0 i).f0), .int .i64 ((rd_T51 l0 i).f1), .int .i64 ((rd_T51 l0 i).f2), .int .i64 ((rd_T51 l0 i).f3)] 51 (0, 0))))
                  replace BK8 := Aside0.mk (blk_drew (by (with_reducible repeat (first | refine blk_drewN ?_ _ | refine blk_drew ?_ | refine blk_alloc ?_ _)); refine blk_put (cs := #[.int .i64 ((rd_T51 l0 i).f1), .int .i64 ((rd_T51 l0 i).f2), .int .i64 0]) ?_ 2 _ rfl; (with_reducible repeat (first | refine blk_drewN ?_ _ | refine blk_drew ?_ | refine blk_alloc ?_ _)); refine blk_put (cs := #[.int .i64 ((rd_T51 l0 i).f1), .int .i64 0, .int .i64 0]) ?_ 1 _ rfl; (with_reducible repeat (first | refine blk_drewN ?_ _ | refine blk_drew ?_ | refine blk_alloc ?_ _)); refine blk_put (cs := #[.int .i64 0, .int .i64 0, .int .i64 0]) ?_ 0 _ rfl; (with_reducible repeat (first | refine blk_drewN ?_ _ | refine blk_drew ?_ | refine blk_alloc ?_ _)); exact BK8.out : (((w10.setCell ⟨gb8, 0, none⟩ (.int .i64 ((rd_T51 l0 i).f1))).setCell ⟨gb8, 1, none⟩ (.int .i64 ((rd_T51 l0 i).f2))).setCell ⟨gb8, 2, none⟩ (.int .i64 ((rd_T51 l0 i).f3))).heap[gb8]? = some (.cells #[.int .i64 ((rd_T51 l0 i).f1), .int .i64 ((rd_T51 l0 i).f2), .int .i64 ((rd_T51 l0 i).f3)] 59 (0, 0))))
                  refine start_ (n := 7) (S := fun w' => w'.cell? ⟨gb7, 0, none⟩ = some (.int .i64 ((rd_T51 l0 i).f0)) ∧ w'.cell? ⟨gb8, 0, none⟩ = some (.int .i64 ((rd_T51 l0 i).f1))) (ds := []) (bn 7 0) (by kernel_rfl) rfl rfl ⟨zc BK7 0, zc BK8 0⟩ (fun hHeld => ?_)
                  generalize (((w10.setCell ⟨gb8, 0, none⟩ (.int .i64 ((rd_T51 l0 i).f1))).setCell ⟨gb8, 1, none⟩ (.int .i64 ((rd_T51 l0 i).f2))).setCell ⟨gb8, 2, none⟩ (.int .i64 ((rd_T51 l0 i).f3))).drew = w6 at HC BK7 BK8 hHeld ⊢
                  refine zp (i := 0) (N := some 18) (bn 7 1) (by kernel_rfl) ?_
                  refine take_ (i := 1) (N := some 19) (v := ?_) (a' := ?_) (bn 7 3) rfl rfl (by kernel_rfl) (fun _ _ _ h => h) (Or.inl ⟨by rfl, ?_⟩) hHeld ?_ ?_
                  rotate_left
                  · rintro w' ⟨s0, s1⟩
                    go_simp
                    with_reducible rfl
                  rotate_left
                  · simp only [Act.put, List.setIfInBounds_toArray, List.set_cons_zero, List.set_cons_succ, i64_w, i32_w]; rfl
                  refine zp (i := 2) (N := some 20) (bn 7 7) (by kernel_rfl) ?_
                  refine zp (i := 3) (N := some 21) (bn 7 15) (by kernel_rfl) ?_
                  refine take_ (i := 4) (N := some 22) (v := ?_) (a' := ?_) (bn 7 31) rfl rfl (by kernel_rfl) (fun _ _ _ h => h) (Or.inl ⟨by rfl, ?_⟩) hHeld ?_ ?_
                  rotate_left
                  · rintro w' ⟨s0, s1⟩
                    go_simp
                    with_reducible rfl
                  rotate_left
                  · simp only [Act.put, List.setIfInBounds_toArray, List.set_cons_zero, List.set_cons_succ, i64_w, i32_w]; rfl
                  refine zp (i := 5) (N := some 23) (bn 7 63) (by kernel_rfl) ?_
                  refine zp (i := 6) (N := some 9) (bn 7 127) (by kernel_rfl) ?_
                  refine done_ (by kernel_rfl) ?_
                  have hcze_0 : w6.cell? ⟨gb8, 0, none⟩ = some (.int .i64 ((rd_T51 l0 i).f1)) := zc BK8 0; have hcze_1 : w6.cell? ⟨gb8, 1, none⟩ = some (.int .i64 ((rd_T51 l0 i).f2)) := zc BK8 1; have hcze_2 : w6.cell? ⟨gb8, 2, none⟩ = some (.int .i64 ((rd_T51 l0 i).f3)) := zc BK8 2; have hfze_0 := blk_frozen BK8.out 0; have hfze_1 := blk_frozen BK8.out 1; have hfze_2 := blk_frozen BK8.out 2
                  go_wp2_with (first | ((with_reducible refine gate_callee (f := 45) rfl ?_); refine goesL_ (some 34) rfl rfl Try.func45 (by kernel_rfl) rfl #[.int .i64 (wrap64 ((rd_T51 l0 i).f0 * (rd_T51 l0 i).f1)), .agg #[.int .i64 m', .int .i64 ((rd_T51 l0 i).f2), .int .i64 ((rd_T51 l0 i).f3)]] rfl zq6 ?_; refine (impl_derive.termOf (wrap64 ((rd_T51 l0 i).f0 * (rd_T51 l0 i).f1)) m' (rd_T51 l0 i).f2 (rd_T51 l0 i).f3 _).mono ?_; rintro e w11 ⟨rfl, hb⟩; refine ⟨_, rfl, ?_⟩; replace HC := Aside0.mk (below_step (zb1 HC) hb); clear hb) | (go_at_call 45; refine (impl_derive.termOf (wrap64 ((rd_T51 l0 i).f0 * (rd_T51 l0 i).f1)) m' (rd_T51 l0 i).f2 (rd_T51 l0 i).f3 _).mono ?_; rintro e w11 ⟨rfl, hb⟩; replace HC := Aside0.mk (below_step (zb1 HC) hb); clear hb) | ((with_reducible refine gate_builtin (b := .append) (xs := #[.tmp 31, .tmp 35]) rfl ?_); at_builtin; refine Kd.R_append k51 (w0 := w) w.heap.size rfl (.tmp 31) (.tmp 35) 25 51 (.agg #[(.int .i64 0), (.int .i64 0), (.int .i64 0), (.int .i64 0)]) 32 rfl Try.underlying25 info51 rfl (by decide) (by omega) _ x (⟨wrap64 ((rd_T51 l0 i).f0 * (rd_T51 l0 i).f1), m', (rd_T51 l0 i).f2, (rd_T51 l0 i).f3⟩ : S51) [.int .i64 (wrap64 ((rd_T51 l0 i).f0 * (rd_T51 l0 i).f1)), .int .i64 m', .int .i64 ((rd_T51 l0 i).f2), .int .i64 ((rd_T51 l0 i).f3)] (fun _ => True) (fun _ => False) rfl (by first | (go_simp; done) | (go_simp; rfl)) ?aP (fun _ hk => hk.elim) ?aF ?aO ?aB ?aS ?aL ?_; (case aP => exact k51_mkM _ _ _ (⟨wrap64 ((rd_T51 l0 i).f0 * (rd_T51 l0 i).f1), m', (rd_T51 l0 i).f2, (rd_T51 l0 i).f3⟩ : S51)); (case aB => exact (below_step HB.out (zb1 HC))); (case aF => exact (fun _ _ => trivial)); (case aO => exact (Kd.R_below HO.out (zb1 HC))); (case aS => exact (below_size (below_step HB.out (zb1 HC)))); (case aL => have := LM.out; omega); intro v36 w12 ho hb hg hat; rw [← Ny.out] at ho; have HO2 := Aside0.mk ho; have HB2 := Aside0.mk hb; clear ho hb hg hat))
                  go_roundg k1
                  case measure => have := HK1.out; omega
                  case rel => exact ⟨y, (wrap64 (i + 1)), (by first | rfl | (simp; done) | (simp [*]; done)), H', ⟨by have := HK1.out; omega⟩, ⟨zq3 HO2⟩, ⟨(zb1 HB2)⟩⟩
                · rw [if_neg c9] at H; cases H
              · rw [if_neg c'] at H; cases H
            · rw [if_neg c] at H
              have cb := decide_eq_false c
              clear c
              have A6 := Aside0.mk H
              clear H
              obtain ⟨Ao, co, eo⟩ := Kd.R_slice HO.out
              subst eo
              go_wp2_with (go_at_call 47; refine (impl_collect.calls _ _ x r _ (Kd.R_reads' HO.out).2.2 (Kd.R_reads' HO.out).2.1 A6.out).mono ?_; rintro e w6 ⟨v6, rfl, ho, hb⟩; have HO6 := Aside0.mk (Kd.R_lower ho (below_size (zb0 HB))); replace HB := Aside0.mk (below_step (zb0 HB) hb); clear ho hb)
              go_ret
              exact ⟨_, by first | rfl | (simp; done) | (simp [*]; done), zq3 HO6, (zb0 HB)⟩
      · go_enter Try.func62, Try.ntmps62
        go_wp2
        go_loopg [5, 12] k (fun kq v5 v12 w' => ∃ (x : List S51) (i : Int), v12 = .int .i64 i ∧ Aside0 (impl_derive.l0 kq l0 aa x i = some r) ∧ Aside0 (kq ≤ k) ∧ Aside0 (Kd.R k51 51 w' w.heap.size (fun _ => True) v5 x) ∧ Aside0 (Below w.heap.size w w'))
        case atStart => exact ⟨[], 0, (by first | rfl | (simp; done) | (simp [*]; done)), H', ⟨Nat.le_refl _⟩, ⟨Kd.R_nil _ _ _ _ _⟩, ⟨(zb0 HB)⟩⟩
        case round =>
          clear H' HB
          obtain ⟨x, i, rfl, HA, HK1, HO, HB⟩ := hrel
          cases gk with
          | zero => exact absurd HA.out (by simp [impl_derive.l0])
          | succ k1 =>
            have H := HA.out
            clear HA
            simp only [impl_derive.l0] at H
            by_cases c : i < (l0.length : Int)
            · rw [if_pos c] at H
              by_cases c' : 0 ≤ i
              · rw [if_pos c'] at H
                by_cases c9 : x.length < 4398046511104
                · rw [if_pos c9] at H
                  have LM := Aside0.mk c9
                  clear c9
                  obtain ⟨m', hm'⟩ : ∃ m', mx (wrap64 ((rd_T51 l0 i).f2 - 1)) 0 = m' := ⟨_, rfl⟩
                  have ht : impl_derive.tm (rd_T51 l0 i) aa = (⟨wrap64 ((rd_T51 l0 i).f0 * (rd_T51 l0 i).f2), (rd_T51 l0 i).f1, m', (rd_T51 l0 i).f3⟩ : S51) := by rw [haa]; simp [impl_derive.tm, hm']
                  rw [ht] at H
                  clear ht
                  obtain ⟨y, hy⟩ : ∃ y_ : List S51, y_ = x ++ [(⟨wrap64 ((rd_T51 l0 i).f0 * (rd_T51 l0 i).f2), (rd_T51 l0 i).f1, m', (rd_T51 l0 i).f3⟩ : S51)] := ⟨_, rfl⟩
                  rw [← hy] at H
                  have Ny := Aside0.mk hy
                  clear hy
                  have H' := Aside0.mk H
                  clear H
                  simp only [mx] at hm'
                  have cb := decide_eq_true c
                  have cb' := decide_eq_true c'
                  obtain ⟨ad, ead, hx0, hx1, hx2, hx3⟩ := at_T51 HR0.out i c' c
                  subst ead
                  replace hx0 := pw_cell_below HB.out hx0
                  replace hx1 := pw_cell_below HB.out hx1
                  replace hx2 := pw_cell_below HB.out hx2
                  replace hx3 := pw_cell_below HB.out hx3
                  have p1 := eq_true c
                  have p2 := eq_true c'
                  clear c c'
                  have HC := Aside0.mk (Below.refl wr.heap.size wr)
                  go_wp2_with (first | ((with_reducible refine gate_dst (N := 7) rfl ?_); refine zbe (N := 7) (cs := #[.int .i64 0, .int .i64 0, .int .i64 0, .int .i64 0]) (t := 51) ?_; intro gb7 hg w7 hbox hb; have BK7 := Aside0.mk hbox; have GW7 := Aside0.mk (zge (zb1 HC) hg); replace HC := Aside0.mk (below_step (zb1 HC) hb); clear hb hbox hg; have hcza_0 : w7.cell? ⟨gb7, 0, none⟩ = some (.int .i64 0) := zc BK7 0; have hcza_1 : w7.cell? ⟨gb7, 1, none⟩ = some (.int .i64 0) := zc BK7 1; have hcza_2 : w7.cell? ⟨gb7, 2, none⟩ = some (.int .i64 0) := zc BK7 2; have hcza_3 : w7.cell? ⟨gb7, 3, none⟩ = some (.int .i64 0) := zc BK7 3; have hfza_0 := blk_frozen BK7.out 0; have hfza_1 := blk_frozen BK7.out 1; have hfza_2 := blk_frozen BK7.out 2; have hfza_3 := blk_frozen BK7.out 3) | ((with_reducible refine gate_callee (f := 44) rfl ?_); refine goesL_ (some 17) rfl rfl Try.func44 (by kernel_rfl) rfl #[.agg #[.int .i64 ((rd_T51 l0 i).f0), .int .i64 ((rd_T51 l0 i).f1), .int .i64 ((rd_T51 l0 i).f2), .int .i64 ((rd_T51 l0 i).f3)]] rfl zq6 ?_; refine (impl_derive.exps (rd_T51 l0 i).f0 (rd_T51 l0 i).f1 (rd_T51 l0 i).f2 (rd_T51 l0 i).f3 _).mono ?_; rintro e w9 ⟨rfl, hb⟩; refine ⟨_, rfl, ?_⟩; replace BK7 := Aside0.mk (blk_below (g := gb7) (o := .cells #[.int .i64 ((rd_T51 l0 i).f0), .int .i64 ((rd_T51 l0 i).f1), .int .i64 ((rd_T51 l0 i).f2), .int .i64 ((rd_T51 l0 i).f3)] 51 (0, 0)) (by (with_reducible repeat (first | refine blk_drewN ?_ _ | refine blk_drew ?_ | refine blk_alloc ?_ _)); refine blk_put (cs := #[.int .i64 ((rd_T51 l0 i).f0), .int .i64 ((rd_T51 l0 i).f1), .int .i64 ((rd_T51 l0 i).f2), .int .i64 0]) ?_ 3 _ rfl; (with_reducible repeat (first | refine blk_drewN ?_ _ | refine blk_drew ?_ | refine blk_alloc ?_ _)); refine blk_put (cs := #[.int .i64 ((rd_T51 l0 i).f0), .int .i64 ((rd_T51 l0 i).f1), .int .i64 0, .int .i64 0]) ?_ 2 _ rfl; (with_reducible repeat (first | refine blk_drewN ?_ _ | refine blk_drew ?_ | refine blk_alloc ?_ _)); refine blk_put (cs := #[.int .i64 ((rd_T51 l0 i).f0), .int .i64 0, .int .i64 0, .int .i64 0]) ?_ 1 _ rfl; (with_reducible repeat (first | refine blk_drewN ?_ _ | refine blk_drew ?_ | refine blk_alloc ?_ _)); refine blk_put (cs := #[.int .i64 0, .int .i64 0, .int .i64 0, .int .i64 0]) ?_ 0 _ rfl; (with_reducible repeat (first | refine blk_drewN ?_ _ | refine blk_drew ?_ | refine blk_alloc ?_ _)); exact BK7.out) hb); replace HC := Aside0.mk (below_step (zb1 HC) hb); clear hb) | (go_at_call 44; refine (impl_derive.exps (rd_T51 l0 i).f0 (rd_T51 l0 i).f1 (rd_T51 l0 i).f2 (rd_T51 l0 i).f3 _).mono ?_; rintro e w9 ⟨rfl, hb⟩; replace BK7 := Aside0.mk (blk_below (g := gb7) (o := .cells #[.int .i64 ((rd_T51 l0 i).f0), .int .i64 ((rd_T51 l0 i).f1), .int .i64 ((rd_T51 l0 i).f2), .int .i64 ((rd_T51 l0 i).f3)] 51 (0, 0)) (by (with_reducible repeat (first | refine blk_drewN ?_ _ | refine blk_drew ?_ | refine blk_alloc ?_ _)); refine blk_put (cs := #[.int .i64 ((rd_T51 l0 i).f0), .int .i64 ((rd_T51 l0 i).f1), .int .i64 ((rd_T51 l0 i).f2), .int .i64 0]) ?_ 3 _ rfl; (with_reducible repeat (first | refine blk_drewN ?_ _ | refine blk_drew ?_ | refine blk_alloc ?_ _)); refine blk_put (cs := #[.int .i64 ((rd_T51 l0 i).f0), .int .i64 ((rd_T51 l0 i).f1), .int .i64 0, .int .i64 0]) ?_ 2 _ rfl; (with_reducible repeat (first | refine blk_drewN ?_ _ | refine blk_drew ?_ | refine blk_alloc ?_ _)); refine blk_put (cs := #[.int .i64 ((rd_T51 l0 i).f0), .int .i64 0, .int .i64 0, .int .i64 0]) ?_ 1 _ rfl; (with_reducible repeat (first | refine blk_drewN ?_ _ | refine blk_drew ?_ | refine blk_alloc ?_ _)); refine blk_put (cs := #[.int .i64 0, .int .i64 0, .int .i64 0, .int .i64 0]) ?_ 0 _ rfl; (with_reducible repeat (first | refine blk_drewN ?_ _ | refine blk_drew ?_ | refine blk_alloc ?_ _)); exact BK7.out) hb); replace HC := Aside0.mk (below_step (zb1 HC) hb); clear hb) | ((with_reducible refine gate_dst (N := 8) rfl ?_); refine zbe (N := 8) (cs := #[.int .i64 0, .int .i64 0, .int .i64 0]) (t := 59) ?_; intro gb8 hg w10 hbox hb; have BK8 := Aside0.mk hbox; have GW8 := Aside0.mk (zge (zb1 HC) hg); have NB87 := Aside0.mk (by rw [hg]; exact Nat.ne_of_gt (blk_lt (zq1 BK7)) : gb8 ≠ gb7); have NB78 := Aside0.mk (Ne.symm NB87.out); replace BK7 := Aside0.mk (zbb BK7 hb); replace HC := Aside0.mk (below_step (zb1 HC) hb); clear hb hbox hg; have hnb := NB87.out; have hnc := NB78.out; have hczc_0 : w10.cell? ⟨gb7, 0, none⟩ = some (.int .i64 ((rd_T51 l0 i).f0)) := zc BK7 0; have hczc_1 : w10.cell? ⟨gb7, 1, none⟩ = some (.int .i64 ((rd_T51 l0 i).f1)) := zc BK7 1; have hczc_2 : w10.cell? ⟨gb7, 2, none⟩ = some (.int .i64 ((rd_T51 l0 i).f2)) := zc BK7 2; have hczc_3 : w10.cell? ⟨gb7, 3, none⟩ = some (.int .i64 ((rd_T51 l0 i).f3)) := zc BK7 3; have hfzc_0 := blk_frozen BK7.out 0; have hfzc_1 := blk_frozen BK7.out 1; have hfzc_2 := blk_frozen BK7.out 2; have hfzc_3 := blk_frozen BK7.out 3; have hczd_0 : w10.cell? ⟨gb8, 0, none⟩ = some (.int .i64 0) := zc BK8 0; have hczd_1 : w10.cell? ⟨gb8, 1, none⟩ = some (.int .i64 0) := zc BK8 1; have hczd_2 : w10.cell? ⟨gb8, 2, none⟩ = some (.int .i64 0) := zc BK8 2; have hfzd_0 := blk_frozen BK8.out 0; have hfzd_1 := blk_frozen BK8.out 1; have hfzd_2 := blk_frozen BK8.out 2))
                  replace HC := Aside0.mk (below_drew1 (zb1 HC : Below wr.heap.size wr (((w10.setCell ⟨gb8, 0, none⟩ (.int .i64 ((rd_T51 l0 i).f1))).setCell ⟨gb8, 1, none⟩ (.int .i64 ((rd_T51 l0 i).f2))).setCell ⟨gb8, 2, none⟩ (.int .i64 ((rd_T51 l0 i).f3)))))
                  replace BK7 := Aside0.mk (blk_drew (by (with_reducible repeat (first | refine blk_drewN ?_ _ | refine blk_drew ?_ | refine blk_alloc ?_ _)); refine blk_far ?_ NB78.out _; (with_reducible repeat (first | refine blk_drewN ?_ _ | refine blk_drew ?_ | refine blk_alloc ?_ _)); refine blk_far ?_ NB78.out _; (with_reducible repeat (first | refine blk_drewN ?_ _ | refine blk_drew ?_ | refine blk_alloc ?_ _)); refine blk_far ?_ NB78.out _; (with_reducible repeat (first | refine blk_drewN ?_ _ | refine blk_drew ?_ | refine blk_alloc ?_ _)); exact BK7.out : (((w10.setCell ⟨gb8, 0, none⟩ (.int .i64 ((rd_T51 l0 i).f1))).setCell ⟨gb8, 1, none⟩ (.int .i64 ((rd_T51 l0 i).f2))).setCell ⟨gb8, 2, none⟩ (.int .i64 ((rd_T51 l0 i).f3))).heap[gb7]? = some (.cells #[.int .i64 ((rd_T51 l0 i).f0), .int .i64 ((rd_T51 l0 i).f1), .int .i64 ((rd_T51 l0 i).f2), .int .i64 ((rd_T51 l0 i).f3)] 51 (0, 0))))
                  replace BK8 := Aside0.mk (blk_drew (by (with_reducible repeat (first | refine blk_drewN ?_ _ | refine blk_drew ?_ | refine blk_alloc ?_ _)); refine blk_put (cs := #[.int .i64 ((rd_T51 l0 i).f1), .int .i64 ((rd_T51 l0 i).f2), .int .i64 0]) ?_ 2 _ rfl; (with_reducible repeat (first | refine blk_drewN ?_ _ | refine blk_drew ?_ | refine blk_alloc ?_ _)); refine blk_put (cs := #[.int .i64 ((rd_T51 l0 i).f1), .int .i64 0, .int .i64 0]) ?_ 1 _ rfl; (with_reducible repeat (first | refine blk_drewN ?_ _ | refine blk_drew ?_ | refine blk_alloc ?_ _)); refine blk_put (cs := #[.int .i64 0, .int .i64 0, .int .i64 0]) ?_ 0 _ rfl; (with_reducible repeat (first | refine blk_drewN ?_ _ | refine blk_drew ?_ | refine blk_alloc ?_ _)); exact BK8.out : (((w10.setCell ⟨gb8, 0, none⟩ (.int .i64 ((rd_T51 l0 i).f1))).setCell ⟨gb8, 1, none⟩ (.int .i64 ((rd_T51 l0 i).f2))).setCell ⟨gb8, 2, none⟩ (.int .i64 ((rd_T51 l0 i).f3))).heap[gb8]? = some (.cells #[.int .i64 ((rd_T51 l0 i).f1), .int .i64 ((rd_T51 l0 i).f2), .int .i64 ((rd_T51 l0 i).f3)] 59 (0, 0))))
                  refine start_ (n := 7) (S := fun w' => w'.cell? ⟨gb7, 0, none⟩ = some (.int .i64 ((rd_T51 l0 i).f0)) ∧ w'.cell? ⟨gb8, 1, none⟩ = some (.int .i64 ((rd_T51 l0 i).f2))) (ds := []) (bn 7 0) (by kernel_rfl) rfl rfl ⟨zc BK7 0, zc BK8 1⟩ (fun hHeld => ?_)
                  generalize (((w10.setCell ⟨gb8, 0, none⟩ (.int .i64 ((rd_T51 l0 i).f1))).setCell ⟨gb8, 1, none⟩ (.int .i64 ((rd_T51 l0 i).f2))).setCell ⟨gb8, 2, none⟩ (.int .i64 ((rd_T51 l0 i).f3))).drew = w6 at HC BK7 BK8 hHeld ⊢
                  refine zp (i := 0) (N := some 18) (bn 7 1) (by kernel_rfl) ?_
                  refine take_ (i := 1) (N := some 19) (v := ?_) (a' := ?_) (bn 7 3) rfl rfl (by kernel_rfl) (fun _ _ _ h => h) (Or.inl ⟨by rfl, ?_⟩) hHeld ?_ ?_
                  rotate_left
                  · rintro w' ⟨s0, s1⟩
                    go_simp
                    with_reducible rfl
                  rotate_left
                  · simp only [Act.put, List.setIfInBounds_toArray, List.set_cons_zero, List.set_cons_succ, i64_w, i32_w]; rfl
                  refine zp (i := 2) (N := some 20) (bn 7 7) (by kernel_rfl) ?_
                  refine zp (i := 3) (N := some 21) (bn 7 15) (by kernel_rfl) ?_
                  refine take_ (i := 4) (N := some 22) (v := ?_) (a' := ?_) (bn 7 31) rfl rfl (by kernel_rfl) (fun _ _ _ h => h) (Or.inl ⟨by rfl, ?_⟩) hHeld ?_ ?_
                  rotate_left
                  · rintro w' ⟨s0, s1⟩
                    go_simp
                    with_reducible rfl
                  rotate_left
                  · simp only [Act.put, List.setIfInBounds_toArray, List.set_cons_zero, List.set_cons_succ, i64_w, i32_w]; rfl
                  refine zp (i := 5) (N := some 23) (bn 7 63) (by kernel_rfl) ?_
                  refine zp (i := 6) (N := some 9) (bn 7 127) (by kernel_rfl) ?_
                  refine done_ (by kernel_rfl) ?_
                  have hcze_0 : w6.cell? ⟨gb8, 0, none⟩ = some (.int .i64 ((rd_T51 l0 i).f1)) := zc BK8 0; have hcze_1 : w6.cell? ⟨gb8, 1, none⟩ = some (.int .i64 ((rd_T51 l0 i).f2)) := zc BK8 1; have hcze_2 : w6.cell? ⟨gb8, 2, none⟩ = some (.int .i64 ((rd_T51 l0 i).f3)) := zc BK8 2; have hfze_0 := blk_frozen BK8.out 0; have hfze_1 := blk_frozen BK8.out 1; have hfze_2 := blk_frozen BK8.out 2
                  go_wp2_with (first | ((with_reducible refine gate_callee (f := 45) rfl ?_); refine goesL_ (some 34) rfl rfl Try.func45 (by kernel_rfl) rfl #[.int .i64 (wrap64 ((rd_T51 l0 i).f0 * (rd_T51 l0 i).f2)), .agg #[.int .i64 ((rd_T51 l0 i).f1), .int .i64 m', .int .i64 ((rd_T51 l0 i).f3)]] rfl zq6 ?_; refine (impl_derive.termOf (wrap64 ((rd_T51 l0 i).f0 * (rd_T51 l0 i).f2)) (rd_T51 l0 i).f1 m' (rd_T51 l0 i).f3 _).mono ?_; rintro e w11 ⟨rfl, hb⟩; refine ⟨_, rfl, ?_⟩; replace HC := Aside0.mk (below_step (zb1 HC) hb); clear hb) | (go_at_call 45; refine (impl_derive.termOf (wrap64 ((rd_T51 l0 i).f0 * (rd_T51 l0 i).f2)) (rd_T51 l0 i).f1 m' (rd_T51 l0 i).f3 _).mono ?_; rintro e w11 ⟨rfl, hb⟩; replace HC := Aside0.mk (below_step (zb1 HC) hb); clear hb) | ((with_reducible refine gate_builtin (b := .append) (xs := #[.tmp 31, .tmp 35]) rfl ?_); at_builtin; refine Kd.R_append k51 (w0 := w) w.heap.size rfl (.tmp 31) (.tmp 35) 25 51 (.agg #[(.int .i64 0), (.int .i64 0), (.int .i64 0), (.int .i64 0)]) 32 rfl Try.underlying25 info51 rfl (by decide) (by omega) _ x (⟨wrap64 ((rd_T51 l0 i).f0 * (rd_T51 l0 i).f2), (rd_T51 l0 i).f1, m', (rd_T51 l0 i).f3⟩ : S51) [.int .i64 (wrap64 ((rd_T51 l0 i).f0 * (rd_T51 l0 i).f2)), .int .i64 ((rd_T51 l0 i).f1), .int .i64 m', .int .i64 ((rd_T51 l0 i).f3)] (fun _ => True) (fun _ => False) rfl (by first | (go_simp; done) | (go_simp; rfl)) ?aP (fun _ hk => hk.elim) ?aF ?aO ?aB ?aS ?aL ?_; (case aP => exact k51_mkM _ _ _ (⟨wrap64 ((rd_T51 l0 i).f0 * (rd_T51 l0 i).f2), (rd_T51 l0 i).f1, m', (rd_T51 l0 i).f3⟩ : S51)); (case aB => exact (below_step HB.out (zb1 HC))); (case aF => exact (fun _ _ => trivial)); (case aO => exact (Kd.R_below HO.out (zb1 HC))); (case aS => exact (below_size (below_step HB.out (zb1 HC)))); (case aL => have := LM.out; omega); intro v36 w12 ho hb hg hat; rw [← Ny.out] at ho; have HO2 := Aside0.mk ho; have HB2 := Aside0.mk hb; clear ho hb hg hat))
                  go_roundg k1
                  case measure => have := HK1.out; omega
                  case rel => exact ⟨y, (wrap64 (i + 1)), (by first | rfl | (simp; done) | (simp [*]; done)), H', ⟨by have := HK1.out; omega⟩, ⟨zq3 HO2⟩, ⟨(zb1 HB2)⟩⟩
                · rw [if_neg c9] at H; cases H
              · rw [if_neg c'] at H; cases H
            · rw [if_neg c] at H
              have cb := decide_eq_false c
              clear c
              have A6 := Aside0.mk H
              clear H
              obtain ⟨Ao, co, eo⟩ := Kd.R_slice HO.out
              subst eo
              go_wp2_with (go_at_call 47; refine (impl_collect.calls _ _ x r _ (Kd.R_reads' HO.out).2.2 (Kd.R_reads' HO.out).2.1 A6.out).mono ?_; rintro e w6 ⟨v6, rfl, ho, hb⟩; have HO6 := Aside0.mk (Kd.R_lower ho (below_size (zb0 HB))); replace HB := Aside0.mk (below_step (zb0 HB) hb); clear ho hb)
              go_ret
              exact ⟨_, by first | rfl | (simp; done) | (simp [*]; done), zq3 HO6, (zb0 HB)⟩
      · go_enter Try.func62, Try.ntmps62
        go_wp2
        go_loopg [5, 12] k (fun kq v5 v12 w' => ∃ (x : List S51) (i : Int), v12 = .int .i64 i ∧ Aside0 (impl_derive.l0 kq l0 aa x i = some r) ∧ Aside0 (kq ≤ k) ∧ Aside0 (Kd.R k51 51 w' w.heap.size (fun _ => True) v5 x) ∧ Aside0 (Below w.heap.size w w'))
        case atStart => exact ⟨[], 0, (by first | rfl | (simp; done) | (simp [*]; done)), H', ⟨Nat.le_refl _⟩, ⟨Kd.R_nil _ _ _ _ _⟩, ⟨(zb0 HB)⟩⟩
        case round =>
          clear H' HB
          obtain ⟨x, i, rfl, HA, HK1, HO, HB⟩ := hrel
          cases gk with
          | zero => exact absurd HA.out (by simp [impl_derive.l0])
          | succ k1 =>
            have H := HA.out
            clear HA
            simp only [impl_derive.l0] at H
            by_cases c : i < (l0.length : Int)
            · rw [if_pos c] at H
              by_cases c' : 0 ≤ i
              · rw [if_pos c'] at H
                by_cases c9 : x.length < 4398046511104
                · rw [if_pos c9] at H
                  have LM := Aside0.mk c9
                  clear c9
                  obtain ⟨m', hm'⟩ : ∃ m', mx (wrap64 ((rd_T51 l0 i).f3 - 1)) 0 = m' := ⟨_, rfl⟩
                  have ht : impl_derive.tm (rd_T51 l0 i) aa = (⟨wrap64 ((rd_T51 l0 i).f0 * (rd_T51 l0 i).f3), (rd_T51 l0 i).f1, (rd_T51 l0 i).f2, m'⟩ : S51) := by rw [haa]; simp [impl_derive.tm, hm']
                  rw [ht] at H
                  clear ht
                  obtain ⟨y, hy⟩ : ∃ y_ : List S51, y_ = x ++ [(⟨wrap64 ((rd_T51 l0 i).f0 * (rd_T51 l0 i).f3), (rd_T51 l0 i).f1, (rd_T51 l0 i).f2, m'⟩ : S51)] := ⟨_, rfl⟩
                  rw [← hy] at H
                  have Ny := Aside0.mk hy
                  clear hy
                  have H' := Aside0.mk H
                  clear H
                  simp only [mx] at hm'
                  have cb := decide_eq_true c
                  have cb' := decide_eq_true c'
                  obtain ⟨ad, ead, hx0, hx1, hx2, hx3⟩ := at_T51 HR0.out i c' c
                  subst ead
                  replace hx0 := pw_cell_below HB.out hx0
                  replace hx1 := pw_cell_below HB.out hx1
                  replace hx2 := pw_cell_below HB.out hx2
                  replace hx3 := pw_cell_below HB.out hx3
                  have p1 := eq_true c
                  have p2 := eq_true c'
                  clear c c'
                  have HC := Aside0.mk (Below.refl wr.heap.size wr)
                  go_wp2_with (first | ((with_reducible refine gate_dst (N := 7) rfl ?_); refine zbe (N := 7) (cs := #[.int .i64 0, .int .i64 0, .int .i64 0, .int .i64 0]) (t := 51) ?_; intro gb7 hg w7 hbox hb; have BK7 := Aside0.mk hbox; have GW7 := Aside0.mk (zge (zb1 HC) hg); replace HC := Aside0.mk (below_step (zb1 HC) hb); clear hb hbox hg; have hcza_0 : w7.cell? ⟨gb7, 0, none⟩ = some (.int .i64 0) := zc BK7 0; have hcza_1 : w7.cell? ⟨gb7, 1, none⟩ = some (.int .i64 0) := zc BK7 1; have hcza_2 : w7.cell? ⟨gb7, 2, none⟩ = some (.int .i64 0) := zc BK7 2; have hcza_3 : w7.cell? ⟨gb7, 3, none⟩ = some (.int .i64 0) := zc BK7 3; have hfza_0 := blk_frozen BK7.out 0; have hfza_1 := blk_frozen BK7.out 1; have hfza_2 := blk_frozen BK7.out 2; have hfza_3 := blk_frozen BK7.out 3) | ((with_reducible refine gate_callee (f := 44) rfl ?_); refine goesL_ (some 17) rfl rfl Try.func44 (by kernel_rfl) rfl #[.agg #[.int .i64 ((rd_T51 l0 i).f0), .int .i64 ((rd_T51 l0 i).f1), .int .i64 ((rd_T51 l0 i).f2), .int .i64 ((rd_T51 l0 i).f3)]] rfl zq6 ?_; refine (impl_derive.exps (rd_T51 l0 i).f0 (rd_T51 l0 i).f1 (rd_T51 l0 i).f2 (rd_T51 l0 i).f3 _).mono ?_; rintro e w9 ⟨rfl, hb⟩; refine ⟨_, rfl, ?_⟩; replace BK7 := Aside0.mk (blk_below (g := gb7) (o := .cells #[.int .i64 ((rd_T51 l0 i).f0), .int .i64 ((rd_T51 l0 i).f1), .int .i64 ((rd_T51 l0 i).f2), .int .i64 ((rd_T51 l0 i).f3)] 51 (0, 0)) (by (with_reducible repeat (first | refine blk_drewN ?_ _ | refine blk_drew ?_ | refine blk_alloc ?_ _)); refine blk_put (cs := #[.int .i64 ((rd_T51 l0 i).f0), .int .i64 ((rd_T51 l0 i).f1), .int .i64 ((rd_T51 l0 i).f2), .int .i64 0]) ?_ 3 _ rfl; (with_reducible repeat (first | refine blk_drewN ?_ _ | refine blk_drew ?_ | refine blk_alloc ?_ _)); refine blk_put (cs := #[.int .i64 ((rd_T51 l0 i).f0), .int .i64 ((rd_T51 l0 i).f1), .int .i64 0, .int .i64 0]) ?_ 2 _ rfl; (with_reducible repeat (first | refine blk_drewN ?_ _ | refine blk_drew ?_ | refine blk_alloc ?_ _)); refine blk_put (cs := #[.int .i64 ((rd_T51 l0 i).f0), .int .i64 0, .int .i64 0, .int .i64 0]) ?_ 1 _ rfl; (with_reducible repeat (first | refine blk_drewN ?_ _ | refine blk_drew ?_ | refine blk_alloc ?_ _)); refine blk_put (cs := #[.int .i64 0, .int .i64 0, .int .i64 0, .int .i64 0]) ?_ 0 _ rfl; (with_reducible repeat (first | refine blk_drewN ?_ _ | refine blk_drew ?_ | refine blk_alloc ?_ _)); exact BK7.out) hb); replace HC := Aside0.mk (below_step (zb1 HC) hb); clear hb) | (go_at_call 44; refine (impl_derive.exps (rd_T51 l0 i).f0 (rd_T51 l0 i).f1 (rd_T51 l0 i).f2 (rd_T51 l0 i).f3 _).mono ?_; rintro e w9 ⟨rfl, hb⟩; replace BK7 := Aside0.mk (blk_below (g := gb7) (o := .cells #[.int .i64 ((rd_T51 l0 i).f0), .int .i64 ((rd_T51 l0 i).f1), .int .i64 ((rd_T51 l0 i).f2), .int .i64 ((rd_T51 l0 i).f3)] 51 (0, 0)) (by (with_reducible repeat (first | refine blk_drewN ?_ _ | refine blk_drew ?_ | refine blk_alloc ?_ _)); refine blk_put (cs := #[.int .i64 ((rd_T51 l0 i).f0), .int .i64 ((rd_T51 l0 i).f1), .int .i64 ((rd_T51 l0 i).f2), .int .i64 0]) ?_ 3 _ rfl; (with_reducible repeat (first | refine blk_drewN ?_ _ | refine blk_drew ?_ | refine blk_alloc ?_ _)); refine blk_put (cs := #[.int .i64 ((rd_T51 l0 i).f0), .int .i64 ((rd_T51 l0 i).f1), .int .i64 0, .int .i64 0]) ?_ 2 _ rfl; (with_reducible repeat (first | refine blk_drewN ?_ _ | refine blk_drew ?_ | refine blk_alloc ?_ _)); refine blk_put (cs := #[.int .i64 ((rd_T51 l0 i).f0), .int .i64 0, .int .i64 0, .int .i64 0]) ?_ 1 _ rfl; (with_reducible repeat (first | refine blk_drewN ?_ _ | refine blk_drew ?_ | refine blk_alloc ?_ _)); refine blk_put (cs := #[.int .i64 0, .int .i64 0, .int .i64 0, .int .i64 0]) ?_ 0 _ rfl; (with_reducible repeat (first | refine blk_drewN ?_ _ | refine blk_drew ?_ | refine blk_alloc ?_ _)); exact BK7.out) hb); replace HC := Aside0.mk (below_step (zb1 HC) hb); clear hb) | ((with_reducible refine gate_dst (N := 8) rfl ?_); refine zbe (N := 8) (cs := #[.int .i64 0, .int .i64 0, .int .i64 0]) (t := 59) ?_; intro gb8 hg w10 hbox hb; have BK8 := Aside0.mk hbox; have GW8 := Aside0.mk (zge (zb1 HC) hg); have NB87 := Aside0.mk (by rw [hg]; exact Nat.ne_of_gt (blk_lt (zq1 BK7)) : gb8 ≠ gb7); have NB78 := Aside0.mk (Ne.symm NB87.out); replace BK7 := Aside0.mk (zbb BK7 hb); replace HC := Aside0.mk (below_step (zb1 HC) hb); clear hb hbox hg; have hnb := NB87.out; have hnc := NB78.out; have hczc_0 : w10.cell? ⟨gb7, 0, none⟩ = some (.int .i64 ((rd_T51 l0 i).f0)) := zc BK7 0; have hczc_1 : w10.cell? ⟨gb7, 1, none⟩ = some (.int .i64 ((rd_T51 l0 i).f1)) := zc BK7 1; have hczc_2 : w10.cell? ⟨gb7, 2, none⟩ = some (.int .i64 ((rd_T51 l0 i).f2)) := zc BK7 2; have hczc_3 : w10.cell? ⟨gb7, 3, none⟩ = some (.int .i64 ((rd_T51 l0 i).f3)) := zc BK7 3; have hfzc_0 := blk_frozen BK7.out 0; have hfzc_1 := blk_frozen BK7.out 1; have hfzc_2 := blk_frozen BK7.out 2; have hfzc_3 := blk_frozen BK7.out 3; have hczd_0 : w10.cell? ⟨gb8, 0, none⟩ = some (.int .i64 0) := zc BK8 0; have hczd_1 : w10.cell? ⟨gb8, 1, none⟩ = some (.int .i64 0) := zc BK8 1; have hczd_2 : w10.cell? ⟨gb8, 2, none⟩ = some (.int .i64 0) := zc BK8 2; have hfzd_0 := blk_frozen BK8.out 0; have hfzd_1 := blk_frozen BK8.out 1; have hfzd_2 := blk_frozen BK8.out 2))
                  replace HC := Aside0.mk (below_drew1 (zb1 HC : Below wr.heap.size wr (((w10.setCell ⟨gb8, 0, none⟩ (.int .i64 ((rd_T51 l0 i).f1))).setCell ⟨gb8, 1, none⟩ (.int .i64 ((rd_T51 l0 i).f2))).setCell ⟨gb8, 2, none⟩ (.int .i64 ((rd_T51 l0 i).f3)))))
                  replace BK7 := Aside0.mk (blk_drew (by (with_reducible repeat (first | refine blk_drewN ?_ _ | refine blk_drew ?_ | refine blk_alloc ?_ _)); refine blk_far ?_ NB78.out _; (with_reducible repeat (first | refine blk_drewN ?_ _ | refine blk_drew ?_ | refine blk_alloc ?_ _)); refine blk_far ?_ NB78.out _; (with_reducible repeat (first | refine blk_drewN ?_ _ | refine blk_drew ?_ | refine blk_alloc ?_ _)); refine blk_far ?_ NB78.out _; (with_reducible repeat (first | refine blk_drewN ?_ _ | refine blk_drew ?_ | refine blk_alloc ?_ _)); exact BK7.out : (((w10.setCell ⟨gb8, 0, none⟩ (.int .i64 ((rd_T51 l0 i).f1))).setCell ⟨gb8, 1, none⟩ (.int .i64 ((rd_T51 l0 i).f2))).setCell ⟨gb8, 2, none⟩ (.int .i64 ((rd_T51 l0 i).f3))).heap[gb7]? = some (.cells #[.int .i64 ((rd_T51 l0 i).f0), .int .i64 ((rd_T51 l0 i).f1), .int .i64 ((rd_T51 l0 i).f2), .int .i64 ((rd_T51 l0 i).f3)] 51 (0, 0))))
                  replace BK8 := Aside0.mk (blk_drew (by (with_reducible repeat (first | refine blk_drewN ?_ _ | refine blk_drew ?_ | refine blk_alloc ?_ _)); refine blk_put (cs := #[.int .i64 ((rd_T51 l0 i).f1), .int .i64 ((rd_T51 l0 i).f2), .int .i64 0]) ?_ 2 _ rfl; (with_reducible repeat (first | refine blk_drewN ?_ _ | refine blk_drew ?_ | refine blk_alloc ?_ _)); refine blk_put (cs := #[.int .i64 ((rd_T51 l0 i).f1), .int .i64 0, .int .i64 0]) ?_ 1 _ rfl; (with_reducible repeat (first | refine blk_drewN ?_ _ | refine blk_drew ?_ | refine blk_alloc ?_ _)); refine blk_put (cs := #[.int .i64 0, .int .i64 0, .int .i64 0]) ?_ 0 _ rfl; (with_reducible repeat (first | refine blk_drewN ?_ _ | refine blk_drew ?_ | refine blk_alloc ?_ _)); exact BK8.out : (((w10.setCell ⟨gb8, 0, none⟩ (.int .i64 ((rd_T51 l0 i).f1))).setCell ⟨gb8, 1, none⟩ (.int .i64 ((rd_T51 l0 i).f2))).setCell ⟨gb8, 2, none⟩ (.int .i64 ((rd_T51 l0 i).f3))).heap[gb8]? = some (.cells #[.int .i64 ((rd_T51 l0 i).f1), .int .i64 ((rd_T51 l0 i).f2), .int .i64 ((rd_T51 l0 i).f3)] 59 (0, 0))))
                  refine start_ (n := 7) (S := fun w' => w'.cell? ⟨gb7, 0, none⟩ = some (.int .i64 ((rd_T51 l0 i).f0)) ∧ w'.cell? ⟨gb8, 2, none⟩ = some (.int .i64 ((rd_T51 l0 i).f3))) (ds := []) (bn 7 0) (by kernel_rfl) rfl rfl ⟨zc BK7 0, zc BK8 2⟩ (fun hHeld => ?_)
                  generalize (((w10.setCell ⟨gb8, 0, none⟩ (.int .i64 ((rd_T51 l0 i).f1))).setCell ⟨gb8, 1, none⟩ (.int .i64 ((rd_T51 l0 i).f2))).setCell ⟨gb8, 2, none⟩ (.int .i64 ((rd_T51 l0 i).f3))).drew = w6 at HC BK7 BK8 hHeld ⊢
                  refine zp (i := 0) (N := some 18) (bn 7 1) (by kernel_rfl) ?_
                  refine take_ (i := 1) (N := some 19) (v := ?_) (a' := ?_) (bn 7 3) rfl rfl (by kernel_rfl) (fun _ _ _ h => h) (Or.inl ⟨by rfl, ?_⟩) hHeld ?_ ?_
                  rotate_left
                  · rintro w' ⟨s0, s1⟩
                    go_simp
                    with_reducible rfl
                  rotate_left
                  · simp only [Act.put, List.setIfInBounds_toArray, List.set_cons_zero, List.set_cons_succ, i64_w, i32_w]; rfl
                  refine zp (i := 2) (N := some 20) (bn 7 7) (by kernel_rfl) ?_
                  refine zp (i := 3) (N := some 21) (bn 7 15) (by kernel_rfl) ?_
                  refine take_ (i := 4) (N := some 22) (v := ?_) (a' := ?_) (bn 7 31) rfl rfl (by kernel_rfl) (fun _ _ _ h => h) (Or.inl ⟨by rfl, ?_⟩) hHeld ?_ ?_
                  rotate_left
                  · rintro w' ⟨s0, s1⟩
                    go_simp
                    with_reducible rfl
                  rotate_left
                  · simp only [Act.put, List.setIfInBounds_toArray, List.set_cons_zero, List.set_cons_succ, i64_w, i32_w]; rfl
                  refine zp (i := 5) (N := some 23) (bn 7 63) (by kernel_rfl) ?_
                  refine zp (i := 6) (N := some 9) (bn 7 127) (by kernel_rfl) ?_
                  refine done_ (by kernel_rfl) ?_
                  have hcze_0 : w6.cell? ⟨gb8, 0, none⟩ = some (.int .i64 ((rd_T51 l0 i).f1)) := zc BK8 0; have hcze_1 : w6.cell? ⟨gb8, 1, none⟩ = some (.int .i64 ((rd_T51 l0 i).f2)) := zc BK8 1; have hcze_2 : w6.cell? ⟨gb8, 2, none⟩ = some (.int .i64 ((rd_T51 l0 i).f3)) := zc BK8 2; have hfze_0 := blk_frozen BK8.out 0; have hfze_1 := blk_frozen BK8.out 1; have hfze_2 := blk_frozen BK8.out 2
                  go_wp2_with (first | ((with_reducible refine gate_callee (f := 45) rfl ?_); refine goesL_ (some 34) rfl rfl Try.func45 (by kernel_rfl) rfl #[.int .i64 (wrap64 ((rd_T51 l0 i).f0 * (rd_T51 l0 i).f3)), .agg #[.int .i64 ((rd_T51 l0 i).f1), .int .i64 ((rd_T51 l0 i).f2), .int .i64 m']] rfl zq6 ?_; refine (impl_derive.termOf (wrap64 ((rd_T51 l0 i).f0 * (rd_T51 l0 i).f3)) (rd_T51 l0 i).f1 (rd_T51 l0 i).f2 m' _).mono ?_; rintro e w11 ⟨rfl, hb⟩; refine ⟨_, rfl, ?_⟩; replace HC := Aside0.mk (below_step (zb1 HC) hb); clear hb) | (go_at_call 45; refine (impl_derive.termOf (wrap64 ((rd_T51 l0 i).f0 * (rd_T51 l0 i).f3)) (rd_T51 l0 i).f1 (rd_T51 l0 i).f2 m' _).mono ?_; rintro e w11 ⟨rfl, hb⟩; replace HC := Aside0.mk (below_step (zb1 HC) hb); clear hb) | ((with_reducible refine gate_builtin (b := .append) (xs := #[.tmp 31, .tmp 35]) rfl ?_); at_builtin; refine Kd.R_append k51 (w0 := w) w.heap.size rfl (.tmp 31) (.tmp 35) 25 51 (.agg #[(.int .i64 0), (.int .i64 0), (.int .i64 0), (.int .i64 0)]) 32 rfl Try.underlying25 info51 rfl (by decide) (by omega) _ x (⟨wrap64 ((rd_T51 l0 i).f0 * (rd_T51 l0 i).f3), (rd_T51 l0 i).f1, (rd_T51 l0 i).f2, m'⟩ : S51) [.int .i64 (wrap64 ((rd_T51 l0 i).f0 * (rd_T51 l0 i).f3)), .int .i64 ((rd_T51 l0 i).f1), .int .i64 ((rd_T51 l0 i).f2), .int .i64 m'] (fun _ => True) (fun _ => False) rfl (by first | (go_simp; done) | (go_simp; rfl)) ?aP (fun _ hk => hk.elim) ?aF ?aO ?aB ?aS ?aL ?_; (case aP => exact k51_mkM _ _ _ (⟨wrap64 ((rd_T51 l0 i).f0 * (rd_T51 l0 i).f3), (rd_T51 l0 i).f1, (rd_T51 l0 i).f2, m'⟩ : S51)); (case aB => exact (below_step HB.out (zb1 HC))); (case aF => exact (fun _ _ => trivial)); (case aO => exact (Kd.R_below HO.out (zb1 HC))); (case aS => exact (below_size (below_step HB.out (zb1 HC)))); (case aL => have := LM.out; omega); intro v36 w12 ho hb hg hat; rw [← Ny.out] at ho; have HO2 := Aside0.mk ho; have HB2 := Aside0.mk hb; clear ho hb hg hat))
                  go_roundg k1
                  case measure => have := HK1.out; omega
                  case rel => exact ⟨y, (wrap64 (i + 1)), (by first | rfl | (simp; done) | (simp [*]; done)), H', ⟨by have := HK1.out; omega⟩, ⟨zq3 HO2⟩, ⟨(zb1 HB2)⟩⟩
                · rw [if_neg c9] at H; cases H
              · rw [if_neg c'] at H; cases H
            · rw [if_neg c] at H
              have cb := decide_eq_false c
              clear c
              have A6 := Aside0.mk H
              clear H
              obtain ⟨Ao, co, eo⟩ := Kd.R_slice HO.out
              subst eo
              go_wp2_with (go_at_call 47; refine (impl_collect.calls _ _ x r _ (Kd.R_reads' HO.out).2.2 (Kd.R_reads' HO.out).2.1 A6.out).mono ?_; rintro e w6 ⟨v6, rfl, ho, hb⟩; have HO6 := Aside0.mk (Kd.R_lower ho (below_size (zb0 HB))); replace HB := Aside0.mk (below_step (zb0 HB) hb); clear ho hb)
              go_ret
              exact ⟨_, by first | rfl | (simp; done) | (simp [*]; done), zq3 HO6, (zb0 HB)⟩
    · rw [if_neg q2] at h; cases h
  · rw [if_neg q0] at h; cases h
/-! ### impl_DerivePoly: function 26 -/
set_option maxHeartbeats 8000000 in
set_option maxRecDepth 100000 in
theorem impl_DerivePoly.calls (k : Nat) (A0 : Option Addr) (c0 : Nat) (l0 : List (S51)) (a1 : Int) (r1 : List (S51)) (r2 : Bool) (w : World) (hr0 : Kd.C k51 w A0 l0.length l0) (hc0 : l0.length ≤ c0) (h : impl_DerivePoly.f k l0 a1 = some (r1, r2)) :
  Calls Try.prog 26 #[.slice A0 l0.length c0, .int .i64 a1] w fun e w' => ∃ v0_ : Value, e = .returned (.tuple #[v0_, .bool r2]) ∧ Kd.R k51 51 w' w.heap.size (fun _ => True) v0_ r1 ∧ Below w.heap.size w w' := by
 have HR0 := Aside0.mk hr0
 have HC0 := Aside0.mk hc0
 clear hr0 hc0
 have HB := Aside0.mk (Below.refl w.heap.size w)
 have H : ((impl_isPoly.f k l0).bind fun t434 => (if t434 = true then ((impl_isUnknown.f a1).bind fun t435 => (impl_DerivePoly.j0 k l0 a1 (!t435))) else (impl_DerivePoly.j0 k l0 a1 true))) = some (r1, r2) := h
 clear h
 have HC3 := Aside0.mk H
 clear H
 go_enter Try.func26, Try.ntmps26
 go_upto_region 1 with (fail)
 go_cut [13] (fun v13 wc => ∃ (kq : Nat) (x13_2 : Bool), v13 = .bool x13_2 ∧ Aside0 (impl_DerivePoly.j0 kq l0 a1 x13_2 = some (r1, r2)) ∧ Aside0 (kq ≤ k) ∧ Aside0 (Below w.heap.size w wc))
 case first =>
  have H := HC3.out
  clear HC3
  replace H := Option.bind_eq_some_iff.mp H
  obtain ⟨t434, A40, H⟩ := H
  replace H : (if t434 = true then ((impl_isUnknown.f a1).bind fun t435 => (impl_DerivePoly.j0 k l0 a1 (!t435))) else (impl_DerivePoly.j0 k l0 a1 true)) = some (r1, r2) := H
  have A4 := Aside0.mk A40
  clear A40
  by_cases c5 : t434 = true
  ·
   subst c5
   have H1 : ((impl_isUnknown.f a1).bind fun t435 => (impl_DerivePoly.j0 k l0 a1 (!t435))) = some (r1, r2) := by rw [if_pos rfl] at H; exact H
   clear H
   have H := H1
   clear H1
   replace H := Option.bind_eq_some_iff.mp H
   obtain ⟨t435, A60, H⟩ := H
   replace H : (impl_DerivePoly.j0 k l0 a1 (!t435)) = some (r1, r2) := H
   have A6 := Aside0.mk A60
   clear A60
   have H' := Aside0.mk H
   clear H
   go_wp2_with (first | ((with_reducible refine gate_callee (f := 40) rfl ?_); refine goesL_ (some 7) rfl rfl Try.func40 (by kernel_rfl) rfl #[.slice A0 l0.length c0] rfl zq6 ?_; (with_reducible refine (impl_isPoly.calls k _ _ l0 true _ ?side1 ?side2 A4.out).mono ?_); (case side1 => repeat (first | exact (Kd.C_below HR0.out HB.out) | (with_reducible refine Kd.C_alloc ?_ _) | (with_reducible refine Kd.C_drewN ?_ _) | (with_reducible refine Kd.C_drew ?_))); (case side2 => exact HC0.out); rintro e w7 ⟨rfl, hb⟩; refine ⟨_, rfl, ?_⟩; replace HB := Aside0.mk (below_step (zb0 HB) hb); (try clear hb); (try clear hb2); (try clear hk); (try clear hi)) | (go_at_call 61; (with_reducible refine (impl_isUnknown.calls a1 t435 _ A6.out).mono ?_); rintro e w' ⟨rfl, ⟨nd, rfl⟩⟩))
   go_meet
   case rel => exact ⟨_, (!t435), (by first | rfl | (simp; done) | (simp [*]; done)), H', ⟨by first | omega | exact Nat.le_refl _⟩, ⟨(zb0 HB)⟩⟩
  ·
   replace c5 := Bool.eq_false_iff.mpr c5
   subst c5
   have H1 : (impl_DerivePoly.j0 k l0 a1 true) = some (r1, r2) := by rw [if_neg (show ¬ (false = true) by decide)] at H; exact H
   clear H
   have H := H1
   clear H1
   have H' := Aside0.mk H
   clear H
   go_wp2_with (first | ((with_reducible refine gate_callee (f := 40) rfl ?_); refine goesL_ (some 7) rfl rfl Try.func40 (by kernel_rfl) rfl #[.slice A0 l0.length c0] rfl zq6 ?_; (with_reducible refine (impl_isPoly.calls k _ _ l0 false _ ?side1 ?side2 A4.out).mono ?_); (case side1 => repeat (first | exact (Kd.C_below HR0.out HB.out) | (with_reducible refine Kd.C_alloc ?_ _) | (with_reducible refine Kd.C_drewN ?_ _) | (with_reducible refine Kd.C_drew ?_))); (case side2 => exact HC0.out); rintro e w8 ⟨rfl, hb⟩; refine ⟨_, rfl, ?_⟩; replace HB := Aside0.mk (below_step (zb0 HB) hb); (try clear hb); (try clear hb2); (try clear hk); (try clear hi)))
   go_meet
   case rel => exact ⟨_, (true), (by first | rfl | (simp; done) | (simp [*]; done)), H', ⟨by first | omega | exact Nat.le_refl _⟩, ⟨(zb0 HB)⟩⟩
 case rest =>
  clear HC3
  try clear c2
  try clear p2
  try clear c4
  try clear c5
  obtain ⟨kq, x13_2, rfl, HA, HJ2, HB⟩ := hcut
  cases kq with
  | zero => exact absurd HA.out (by simp [impl_DerivePoly.j0])
  | succ kj2 =>
   have H := HA.out
   clear HA
   simp only [impl_DerivePoly.j0] at H
   by_cases c9 : x13_2 = true
   ·
    subst c9
    have H1 : (some (([] : List (S51)), false)) = some (r1, r2) := by rw [if_pos rfl] at H; exact H
    clear H
    have H := H1
    clear H1
    simp only [Option.some.injEq, Prod.mk.injEq] at H
    obtain ⟨rfl, rfl⟩ := H
    go_wp2
    go_ret2
    exact ⟨_, by first | rfl | (simp [errW_none, errW_some] <;> rfl) | (simp [*, errW_none, errW_some] <;> rfl), by first | exact Kd.R_nil _ _ _ _ _ | exact Kd.N_nil _ _ _ _ _ | exact Kd.V_nil _ _ _ _ _ | exact Kd.Q_nil _ _ _ _ _ | exact Kd.S_nil _ _ _ _ _, (zb0 HB)⟩
   ·
    replace c9 := Bool.eq_false_iff.mpr c9
    subst c9
    have H1 : ((impl_derive.f kj2 l0 a1).bind fun t436 => ((impl_polyResult.f kj2 t436).bind fun bt439 => (some (bt439.1, bt439.2)))) = some (r1, r2) := by rw [if_neg (show ¬ (false = true) by decide)] at H; exact H
    clear H
    have H := H1
    clear H1
    replace H := Option.bind_eq_some_iff.mp H
    obtain ⟨t436, A100, H⟩ := H
    replace H : ((impl_polyResult.f kj2 t436).bind fun bt439 => (some (bt439.1, bt439.2))) = some (r1, r2) := H
    have A10 := Aside0.mk A100
    clear A100
    replace H := Option.bind_eq_some_iff.mp H
    obtain ⟨⟨t439, t442⟩, A110, H⟩ := H
    replace H : (some (t439, t442)) = some (r1, r2) := H
    have A11 := Aside0.mk A110
    clear A110
    simp only [Option.some.injEq, Prod.mk.injEq] at H
    obtain ⟨rfl, rfl⟩ := H
    go_wp2_with (first | ((with_reducible refine gate_callee (f := 62) rfl ?_); refine goesL_ (some 16) rfl rfl Try.func62 (by kernel_rfl) rfl #[.slice A0 l0.length c0, .int .i64 a1] rfl zq6 ?_; (with_reducible refine (impl_derive.calls kj2 _ _ l0 a1 t436 _ ?side1 ?side2 A10.out).mono ?_); (case side1 => repeat (first | exact (Kd.C_below HR0.out HB.out) | (with_reducible refine Kd.C_alloc ?_ _) | (with_reducible refine Kd.C_drewN ?_ _) | (with_reducible refine Kd.C_drew ?_))); (case side2 => exact HC0.out); rintro e w12 ⟨v437, rfl, ho0, hb⟩; refine ⟨_, rfl, ?_⟩; have HO438 := Aside0.mk (Kd.R_lower ho0 (below_size (zb0 HB))); replace HB := Aside0.mk (below_step (zb0 HB) hb); (try clear hb); (try clear hb2); (try clear hk); (try clear hi); (try clear ho0); obtain ⟨Ao13, co13, eo13⟩ := Kd.R_slice HO438.out; subst eo13) | ((with_reducible refine gate_callee (f := 46) rfl ?_); refine goesL_ (some 17) rfl rfl Try.func46 (by kernel_rfl) rfl #[.slice Ao13 t436.length co13] rfl zq6 ?_; (with_reducible refine (impl_polyResult.calls kj2 (fun k_ => some k_ = (.slice Ao13 t436.length co13 : Value).ownBlock) (.slice Ao13 t436.length co13) t436 t439 t442 w _ ?side1 ?side2 A11.out).mono ?_); (case side1 => exact zb0 HB); (case side2 => exact Kd.R_tight rfl HO438.out); rintro e w14 ⟨v440, rfl, ho0, hb, hkp⟩; refine ⟨_, rfl, ?_⟩; have HO441 := Aside0.mk (Kd.R_mono (ok' := fun k_ => True) ho0 (fun k_ hk_ => trivial)); replace HB := Aside0.mk (hb); clear HO438; (try clear hb); (try clear hkp); (try clear ho0)))
    go_ret2
    exact ⟨_, by first | rfl | (simp [errW_none, errW_some] <;> rfl) | (simp [*, errW_none, errW_some] <;> rfl), by (with_reducible repeat (first | apply Kd.R_alloc | apply Kd.R_drewN | apply Kd.R_drew)); exact HO441.out, (zb0 HB)⟩
/-! ### spec_DrawNormalPoly: function 27 -/
theorem zgr {w0 W0 W W1 : World} {g : Nat} {f0 : List Int} {f1 f2 : Int} {row : Option Nat} (h : Aside0 (IsS67 w0 W0 g f0 f1 f2)) (hg : W.grownBy W1 row) (hne : some g ≠ row) (f : IsS67 w0 W0 g f0 f1 f2 → IsS67 w0 W g f0 f1 f2 := by intro h_; repeat (first | (with_reducible first | exact h_ | apply IsS67.alloc | apply IsS67.drewN | apply IsS67.drew | refine IsS67.far ?_ (Aside0.out (by assumption)) _) | exact h_)) : IsS67 w0 W1 g f0 f1 f2 := (f h.out).grown hg hne
theorem z27_0 {P Q : Prop} (h : Aside0 (Q)) (f : Q → P := by intro h_; repeat (first | (with_reducible first | exact h_ | apply IsS67.alloc | apply IsS67.drewN | apply IsS67.drew | apply IsS67.set_1 | apply IsS67.set_2) | exact h_)) : P := f h.out
theorem z27_1 {w W0 W1 : World} {B : Nat} (h : Aside0 (Below B w W0)) (f : Below B w W0 → Below B w W1 := by intro h_; repeat (first | (with_reducible first | exact h_ | apply below_alloc | apply pw_below_drewN | apply below_drew1 | refine below_set ?_ (IsS67.ge (Aside0.out (by assumption)))) | exact h_)) : Below B w W1 := f h.out
theorem z27_2 {P Q : Prop} (h : Aside0 (Q)) (f : Q → P := by intro h_; repeat (first | (with_reducible first | exact h_ | apply IsS67.alloc | apply IsS67.drewN | apply IsS67.drew | apply IsS67.set_1 | apply IsS67.set_2 | refine IsS67.far ?_ (Aside0.out (by assumption)) _) | exact h_)) : P := f h.out
theorem z27_3 {w W0 W1 : World} {B : Nat} (h : Aside0 (Below B w W0)) (f : Below B w W0 → Below B w W1 := by intro h_; repeat (first | (with_reducible first | exact h_ | apply below_alloc | apply pw_below_drewN | apply below_drew1 | refine below_set ?_ (IsS67.ge (Aside0.out (by assumption))) | refine below_set ?_ (Aside0.out (by assumption))) | exact h_)) : Below B w W1 := f h.out
set_option maxHeartbeats 8000000 in
set_option maxRecDepth 100000 in
theorem spec_DrawNormalPoly.calls (k : Nat) (A0 : Option Addr) (c0 : Nat) (l0 : List Int) (r : List (S51)) (w : World) (hr0 : Kd.C (Kd.int .u8) w A0 l0.length l0) (hc0 : l0.length ≤ c0) (h : spec_DrawNormalPoly.f k l0 = some r) :
  Calls Try.prog 27 #[.slice A0 l0.length c0] w fun e w' => ∃ v0_ : Value, e = .returned (v0_) ∧ Kd.R k51 51 w' w.heap.size (fun _ => True) v0_ r ∧ Below w.heap.size w w' := by
 have hu67 := Try.underlying67
 have hu51 := Try.underlying51
 have HR0 := Aside0.mk hr0
 have HC0 := Aside0.mk hc0
 clear hr0 hc0
 have HB := Aside0.mk (Below.refl w.heap.size w)
 have H : ((spec_l1Cur_pick.f l0 0 0 3).bind fun bt444 => ((spec_l1Cur_pick.f l0 bt444.2.1 bt444.2.2 8).bind fun bt447 => ((spec_l1Cur_one.f l0 bt447.2.1 bt447.2.2 16).bind fun bt450 => (if bt450.1 = true then ((spec_l1Cur_pick.f l0 bt450.2.1 bt450.2.2 2).bind fun bt453 => (spec_DrawNormalPoly.j0 k (wrap64 (1 + bt444.1)) ([] : List (S51)) (wrap64 (40 + bt453.1)) l0 bt453.2.1 bt453.2.2)) else (spec_DrawNormalPoly.j0 k (wrap64 (1 + bt444.1)) ([] : List (S51)) bt447.1 l0 bt450.2.1 bt450.2.2))))) = some r := h
 clear h
 replace H := Option.bind_eq_some_iff.mp H
 obtain ⟨⟨t444, t445, t446⟩, A20, H⟩ := H
 replace H : ((spec_l1Cur_pick.f l0 t445 t446 8).bind fun bt447 => ((spec_l1Cur_one.f l0 bt447.2.1 bt447.2.2 16).bind fun bt450 => (if bt450.1 = true then ((spec_l1Cur_pick.f l0 bt450.2.1 bt450.2.2 2).bind fun bt453 => (spec_DrawNormalPoly.j0 k (wrap64 (1 + t444)) ([] : List (S51)) (wrap64 (40 + bt453.1)) l0 bt453.2.1 bt453.2.2)) else (spec_DrawNormalPoly.j0 k (wrap64 (1 + t444)) ([] : List (S51)) bt447.1 l0 bt450.2.1 bt450.2.2)))) = some r := H
 have A2 := Aside0.mk A20
 clear A20
 replace H := Option.bind_eq_some_iff.mp H
 obtain ⟨⟨t447, t448, t449⟩, A30, H⟩ := H
 replace H : ((spec_l1Cur_one.f l0 t448 t449 16).bind fun bt450 => (if bt450.1 = true then ((spec_l1Cur_pick.f l0 bt450.2.1 bt450.2.2 2).bind fun bt453 => (spec_DrawNormalPoly.j0 k (wrap64 (1 + t444)) ([] : List (S51)) (wrap64 (40 + bt453.1)) l0 bt453.2.1 bt453.2.2)) else (spec_DrawNormalPoly.j0 k (wrap64 (1 + t444)) ([] : List (S51)) t447 l0 bt450.2.1 bt450.2.2))) = some r := H
 have A3 := Aside0.mk A30
 clear A30
 replace H := Option.bind_eq_some_iff.mp H
 obtain ⟨⟨t450, t451, t452⟩, A40, H⟩ := H
 replace H : (if t450 = true then ((spec_l1Cur_pick.f l0 t451 t452 2).bind fun bt453 => (spec_DrawNormalPoly.j0 k (wrap64 (1 + t444)) ([] : List (S51)) (wrap64 (40 + bt453.1)) l0 bt453.2.1 bt453.2.2)) else (spec_DrawNormalPoly.j0 k (wrap64 (1 + t444)) ([] : List (S51)) t447 l0 t451 t452)) = some r := H
 have A4 := Aside0.mk A40
 clear A40
 have HC5 := Aside0.mk H
 clear H
 go_enter Try.func27, Try.ntmps27
 go_upto_if 18 with (first | ((with_reducible refine gate_dst (N := 11) rfl ?_); refine zbe (N := 11) (cs := #[.slice A0 l0.length c0, .int .i64 0, .int .u64 0]) (t := 67) ?_; intro gb443 hg w6 hbox hb; have BK443 := Aside0.mk (hbox); have GW443 := Aside0.mk (zge (zb0 HB) hg); have GE443 := GW443; replace HB := Aside0.mk (below_step (zb0 HB) hb); clear hb hbox hg; have HI443 : Aside0 (IsS67 w w6 gb443 l0 0 0) := ⟨⟨A0, c0, (zq1 BK443), GE443.out, HR0.out⟩⟩) | ((with_reducible refine gate_callee (f := 50) rfl ?_); refine goesL_ (some 13) rfl rfl Try.func50 (by kernel_rfl) rfl #[.pointer (some ⟨gb443, 0, none⟩), .int .i64 3] rfl zq6 ?_; (with_reducible refine (spec_l1Cur_pick.calls gb443 l0 0 0 3 t444 t445 t446 w _ ?side1 ?side2 A2.out).mono ?_); (case side1 => exact z27_0 HI443); (case side2 => exact z27_1 HB); rintro e w7 ⟨rfl, hi, hb, hk⟩; refine ⟨_, rfl, ?_⟩; replace HB := Aside0.mk (hb); replace HI443 := Aside0.mk (hi); (try clear hb); (try clear hb2); (try clear hk); (try clear hi)) | ((with_reducible refine gate_callee (f := 50) rfl ?_); refine goesL_ (some 16) rfl rfl Try.func50 (by kernel_rfl) rfl #[.pointer (some ⟨gb443, 0, none⟩), .int .i64 8] rfl zq6 ?_; (with_reducible refine (spec_l1Cur_pick.calls gb443 l0 t445 t446 8 t447 t448 t449 w _ ?side1 ?side2 A3.out).mono ?_); (case side1 => exact z27_0 HI443); (case side2 => exact z27_1 HB); rintro e w8 ⟨rfl, hi, hb, hk⟩; refine ⟨_, rfl, ?_⟩; replace HB := Aside0.mk (hb); replace HI443 := Aside0.mk (hi); (try clear hb); (try clear hb2); (try clear hk); (try clear hi)) | ((with_reducible refine gate_callee (f := 52) rfl ?_); refine goesL_ (some 18) rfl rfl Try.func52 (by kernel_rfl) rfl #[.pointer (some ⟨gb443, 0, none⟩), .int .i64 16] rfl zq6 ?_; (with_reducible refine (spec_l1Cur_one.calls gb443 l0 t448 t449 16 t450 t451 t452 w _ ?side1 ?side2 A4.out).mono ?_); (case side1 => exact z27_0 HI443); (case side2 => exact z27_1 HB); rintro e w9 ⟨rfl, hi, hb, hk⟩; refine ⟨_, rfl, ?_⟩; replace HB := Aside0.mk (hb); replace HI443 := Aside0.mk (hi); (try clear hb); (try clear hb2); (try clear hk); (try clear hi)))
 (try simp only [Act.put, List.setIfInBounds_toArray, List.set_cons_zero, List.set_cons_succ])
 go_cut [6] (fun v6 wc => ∃ (kq : Nat) (x6_4 : Int) (x444001_4 : Int) (x444002_4 : Int), v6 = .int .i64 x6_4 ∧ Aside0 (spec_DrawNormalPoly.j0 kq (wrap64 (1 + t444)) ([] : List (S51)) x6_4 l0 x444001_4 x444002_4 = some r) ∧ Aside0 (kq ≤ k) ∧ Aside0 (Kd.R k51 51 wc w.heap.size (fun _ => True) (.slice none 0 0) ([] : List (S51))) ∧ Aside0 (IsS67 w wc gb443 l0 x444001_4 x444002_4) ∧ Aside0 (Below w.heap.size w wc))
 case first =>
  have H := HC5.out
  clear HC5
  by_cases c10 : t450 = true
  ·
   subst c10
   have H1 : ((spec_l1Cur_pick.f l0 t451 t452 2).bind fun bt453 => (spec_DrawNormalPoly.j0 k (wrap64 (1 + t444)) ([] : List (S51)) (wrap64 (40 + bt453.1)) l0 bt453.2.1 bt453.2.2)) = some r := by rw [if_pos rfl] at H; exact H
   clear H
   have H := H1
   clear H1
   replace H := Option.bind_eq_some_iff.mp H
   obtain ⟨⟨t453, t454, t455⟩, A110, H⟩ := H
   replace H : (spec_DrawNormalPoly.j0 k (wrap64 (1 + t444)) ([] : List (S51)) (wrap64 (40 + t453)) l0 t454 t455) = some r := H
   have A11 := Aside0.mk A110
   clear A110
   have H' := Aside0.mk H
   clear H
   go_wp2_with (first | ((with_reducible refine gate_callee (f := 50) rfl ?_); refine goesL_ (some 20) rfl rfl Try.func50 (by kernel_rfl) rfl #[.pointer (some ⟨gb443, 0, none⟩), .int .i64 2] rfl zq6 ?_; (with_reducible refine (spec_l1Cur_pick.calls gb443 l0 t451 t452 2 t453 t454 t455 w _ ?side1 ?side2 A11.out).mono ?_); (case side1 => exact z27_0 HI443); (case side2 => exact z27_1 HB); rintro e w12 ⟨rfl, hi, hb, hk⟩; refine ⟨_, rfl, ?_⟩; replace HB := Aside0.mk (hb); replace HI443 := Aside0.mk (hi); (try clear hb); (try clear hb2); (try clear hk); (try clear hi)))
   go_meet
   case rel => exact ⟨_, (wrap64 (40 + t453)), (t454), (t455), (by first | rfl | (simp; done) | (simp [*]; done)), H', ⟨by first | omega | exact Nat.le_refl _⟩, ⟨by first | exact Kd.R_nil _ _ _ _ _ | exact Kd.N_nil _ _ _ _ _ | exact Kd.V_nil _ _ _ _ _ | exact Kd.Q_nil _ _ _ _ _ | exact Kd.S_nil _ _ _ _ _⟩, ⟨(z27_0 HI443)⟩, ⟨(z27_1 HB)⟩⟩
  ·
   replace c10 := Bool.eq_false_iff.mpr c10
   subst c10
   have H1 : (spec_DrawNormalPoly.j0 k (wrap64 (1 + t444)) ([] : List (S51)) t447 l0 t451 t452) = some r := by rw [if_neg (show ¬ (false = true) by decide)] at H; exact H
   clear H
   have H := H1
   clear H1
   have H' := Aside0.mk H
   clear H
   go_wp2
   go_meet
   case rel => exact ⟨_, (t447), (t451), (t452), (by first | rfl | (simp; done) | (simp [*]; done)), H', ⟨by first | omega | exact Nat.le_refl _⟩, ⟨by first | exact Kd.R_nil _ _ _ _ _ | exact Kd.N_nil _ _ _ _ _ | exact Kd.V_nil _ _ _ _ _ | exact Kd.Q_nil _ _ _ _ _ | exact Kd.S_nil _ _ _ _ _⟩, ⟨(z27_0 HI443)⟩, ⟨(z27_1 HB)⟩⟩
 case rest =>
  clear HC5
  try clear c1
  try clear c2
  try clear p2
  try clear c5
  try clear p6
  try clear c10
  obtain ⟨kq, x6_4, x444001_4, x444002_4, rfl, HA, HJ4, HO_5, HI443, HB⟩ := hcut
  cases kq with
  | zero => exact absurd HA.out (by simp [spec_DrawNormalPoly.j0])
  | succ kj4 =>
   have H := HA.out
   clear HA
   simp only [spec_DrawNormalPoly.j0] at H
   have H' := Aside0.mk H
   clear H
   go_wp2
   go_loopg [5] kj4 (fun kq v5 w' => ∃ (x5_2 : List (S51)) (x444001_2 : Int) (x444002_2 : Int), Aside0 (spec_DrawNormalPoly.l0 kq (wrap64 (1 + t444)) x5_2 x6_4 l0 x444001_2 x444002_2 = some r) ∧ Aside0 (kq ≤ kj4) ∧ Aside0 (Kd.R k51 51 w' w.heap.size (fun _ => True) v5 x5_2) ∧ Aside0 (IsS67 w w' gb443 l0 x444001_2 x444002_2) ∧ Aside0 (Below w.heap.size w w'))
   case atStart => exact ⟨(([] : List (S51))), (x444001_4), (x444002_4), H', ⟨Nat.le_refl _⟩, ⟨by (with_reducible repeat (first | apply Kd.R_alloc | apply Kd.R_drewN | apply Kd.R_drew)); exact HO_5.out⟩, ⟨(z27_0 HI443)⟩, ⟨(z27_1 HB)⟩⟩
   case round =>
    clear H'
    try clear c1
    try clear c2
    try clear p2
    try clear c5
    try clear p6
    try clear c10
    try clear p2
    try clear p6
    obtain ⟨x5_2, x444001_2, x444002_2, HA, HK2, HO_5, HI443, HB⟩ := hrel
    cases gk with
    | zero => exact absurd HA.out (by simp [spec_DrawNormalPoly.l0])
    | succ k2 =>
     have H := HA.out
     clear HA
     simp only [spec_DrawNormalPoly.l0] at H
     by_cases c13 : (x5_2.length : Int) < x6_4
     ·
      rw [if_pos c13] at H
      have c13b0 : decide ((x5_2.length : Int) < x6_4) = true := decide_eq_true c13
      clear c13
      replace H := Option.bind_eq_some_iff.mp H
      obtain ⟨⟨t456, t457, t458, t459, t460, t461⟩, A140, H⟩ := H
      replace H : (if (x5_2.length : Int) > 0 then ((spec_l1Cur_one.f l0 t460 t461 3).bind fun bt463 => (spec_DrawNormalPoly.j2 k2 (wrap64 (1 + t444)) x5_2 x6_4 (x5_2.length : Int) bt463.1 l0 bt463.2.1 bt463.2.2 t456 t457 t458 t459)) else (spec_DrawNormalPoly.j2 k2 (wrap64 (1 + t444)) x5_2 x6_4 (x5_2.length : Int) false l0 t460 t461 t456 t457 t458 t459)) = some r := H
      have A14 := Aside0.mk A140
      clear A140
      have HC15 := Aside0.mk H
      clear H
      obtain ⟨Ao16, co16, eo16⟩ := Kd.R_slice HO_5.out
      subst eo16
      go_upto_region 10 with (first | ((with_reducible refine gate_callee (f := 63) rfl ?_); refine goesL_ (some 28) rfl rfl Try.func63 (by kernel_rfl) rfl #[.pointer (some ⟨gb443, 0, none⟩), .int .i64 (wrap64 (1 + t444))] rfl zq6 ?_; (with_reducible refine (spec_l1Cur_term.calls k2 gb443 l0 x444001_2 x444002_2 (wrap64 (1 + t444)) t456 t457 t458 t459 t460 t461 w _ ?side1 ?side2 A14.out).mono ?_); (case side1 => exact z27_0 HI443); (case side2 => exact z27_1 HB); rintro e w17 ⟨rfl, hi, hb, hk⟩; refine ⟨_, rfl, ?_⟩; replace HO_5 := Aside0.mk (Kd.R_mono (Kd.R_keep (IsS67.apart (show IsS67 w _ gb443 l0 x444001_2 x444002_2 from (z27_0 HI443)) (zq3 HO_5) (by decide)) hk (fun _ h => h.2)) (fun _ h => h.1)); replace HB := Aside0.mk (hb); replace HI443 := Aside0.mk (hi); (try clear hb); (try clear hb2); (try clear hk); (try clear hi)) | ((with_reducible refine gate_dst (N := 7) rfl ?_); refine zbe (N := 7) (cs := #[.int .i64 0, .int .i64 0, .int .i64 0, .int .i64 0]) (t := 51) ?_; intro gb462 hg w18 hbox hb; have BK462 := Aside0.mk (hbox); have GW462 := Aside0.mk (zge (z27_1 HB) hg); have GE462 := GW462; have NB443_462 := Aside0.mk ((by rw [hg]; exact Nat.ne_of_lt (IsS67.lt (show IsS67 w _ gb443 l0 t460 t461 from (z27_0 HI443))) : gb443 ≠ gb462)); have NB462_443 := Aside0.mk ((by rw [hg]; exact Nat.ne_of_gt (IsS67.lt (show IsS67 w _ gb443 l0 t460 t461 from (z27_0 HI443))) : gb462 ≠ gb443)); replace HO_5 := Aside0.mk (Kd.R_below (Kd.R_elderB (zq3 HO_5) gb462 (Nat.le_of_eq hg.symm)) hb); replace HI443 := Aside0.mk (IsS67.below (z27_0 HI443) hb); replace HB := Aside0.mk (below_step (z27_1 HB) hb); clear hb hbox hg; have hnb19 := NB462_443.out; have hnc19 := NB443_462.out; have hcz20_0 : w18.cell? ⟨gb462, 0, none⟩ = some (.int .i64 0) := zc BK462 0; have hcz20_1 : w18.cell? ⟨gb462, 1, none⟩ = some (.int .i64 0) := zc BK462 1; have hcz20_2 : w18.cell? ⟨gb462, 2, none⟩ = some (.int .i64 0) := zc BK462 2; have hcz20_3 : w18.cell? ⟨gb462, 3, none⟩ = some (.int .i64 0) := zc BK462 3; have hfz20_0 := blk_frozen BK462.out 0; have hfz20_1 := blk_frozen BK462.out 1; have hfz20_2 := blk_frozen BK462.out 2; have hfz20_3 := blk_frozen BK462.out 3))
      (try simp only [Act.put, List.setIfInBounds_toArray, List.set_cons_zero, List.set_cons_succ])
      go_cut [36] (fun v36 wc => ∃ (kq : Nat) (x36_14 : Bool) (x444001_14 : Int) (x444002_14 : Int), v36 = .bool x36_14 ∧ Aside0 (spec_DrawNormalPoly.j2 kq (wrap64 (1 + t444)) x5_2 x6_4 (x5_2.length : Int) x36_14 l0 x444001_14 x444002_14 t456 t457 t458 t459 = some r) ∧ Aside0 (kq ≤ k2) ∧ Aside0 (Kd.R k51 51 wc w.heap.size (fun k_ => k_ ≠ gb462) (.slice Ao16 x5_2.length co16) x5_2) ∧ Aside0 (wc.heap[gb462]? = some (.cells #[.int .i64 t456, .int .i64 t457, .int .i64 t458, .int .i64 t459] 51 (0, 0))) ∧ Aside0 (IsS67 w wc gb443 l0 x444001_14 x444002_14) ∧ Aside0 (Below w.heap.size w wc))
      case first =>
       have H := HC15.out
       clear HC15
       by_cases c21 : (x5_2.length : Int) > 0
       ·
        rw [if_pos c21] at H
        have c21b0 : decide (0 < (x5_2.length : Int)) = true := decide_eq_true c21
        have c21b1 : decide (0 < x5_2.length) = true := decide_eq_true (by omega)
        clear c21
        (first | rw [c21b0] | (simp only [i64_w, i32_w]; rw [c21b0]) | skip)
        replace H := Option.bind_eq_some_iff.mp H
        obtain ⟨⟨t463, t464, t465⟩, A220, H⟩ := H
        replace H : (spec_DrawNormalPoly.j2 k2 (wrap64 (1 + t444)) x5_2 x6_4 (x5_2.length : Int) t463 l0 t464 t465 t456 t457 t458 t459) = some r := H
        have A22 := Aside0.mk A220
        clear A220
        have H' := Aside0.mk H
        clear H
        go_wp2_with (first | (go_at_call 52; (with_reducible refine (spec_l1Cur_one.calls gb443 l0 t460 t461 3 t463 t464 t465 w _ ?side1 ?side2 A22.out).mono ?_); (case side1 => exact z27_2 HI443); (case side2 => exact z27_3 HB); rintro e w23 ⟨rfl, hi, hb, hk⟩; replace HO_5 := Aside0.mk (Kd.R_mono (Kd.R_keep (IsS67.apart (show IsS67 w _ gb443 l0 t460 t461 from (z27_2 HI443)) (by (with_reducible repeat (first | apply Kd.R_alloc | apply Kd.R_drewN | apply Kd.R_drew)); exact (Kd.R_mono (Kd.R_far (p := ⟨gb462, 3, none⟩) (Kd.R_far (p := ⟨gb462, 2, none⟩) (Kd.R_far (p := ⟨gb462, 1, none⟩) (Kd.R_far (p := ⟨gb462, 0, none⟩) (Kd.R_mono HO_5.out (fun k_ hk => (⟨hk, hk.2⟩ : _ ∧ k_ ≠ gb462))) (fun _ hk => hk.2) (.int .i64 t456)) (fun _ hk => hk.2) (.int .i64 t457)) (fun _ hk => hk.2) (.int .i64 t458)) (fun _ hk => hk.2) (.int .i64 t459)) (fun _ h_ => h_.1))) (by decide)) hk (fun _ h => h.2)) (fun _ h => h.1)); replace BK462 := Aside0.mk (KeepBut.blk hk (g' := gb462) (o := .cells #[.int .i64 t456, .int .i64 t457, .int .i64 t458, .int .i64 t459] 51 (0, 0)) (by (with_reducible repeat (first | refine blk_drewN ?_ _ | refine blk_drew ?_ | refine blk_alloc ?_ _)); refine blk_put (cs := #[.int .i64 t456, .int .i64 t457, .int .i64 t458, .int .i64 0]) ?_ 3 _ rfl; (with_reducible repeat (first | refine blk_drewN ?_ _ | refine blk_drew ?_ | refine blk_alloc ?_ _)); refine blk_put (cs := #[.int .i64 t456, .int .i64 t457, .int .i64 0, .int .i64 0]) ?_ 2 _ rfl; (with_reducible repeat (first | refine blk_drewN ?_ _ | refine blk_drew ?_ | refine blk_alloc ?_ _)); refine blk_put (cs := #[.int .i64 t456, .int .i64 0, .int .i64 0, .int .i64 0]) ?_ 1 _ rfl; (with_reducible repeat (first | refine blk_drewN ?_ _ | refine blk_drew ?_ | refine blk_alloc ?_ _)); refine blk_put (cs := #[.int .i64 0, .int .i64 0, .int .i64 0, .int .i64 0]) ?_ 0 _ rfl; (with_reducible repeat (first | refine blk_drewN ?_ _ | refine blk_drew ?_ | refine blk_alloc ?_ _)); exact BK462.out) NB462_443.out (by simp)); replace HB := Aside0.mk (hb); replace HI443 := Aside0.mk (hi); (try clear hb); (try clear hb2); (try clear hk); (try clear hi)))
        go_meet
        case rel => exact ⟨_, (t463), (t464), (t465), (by first | rfl | (simp; done) | (simp [*]; done)), H', ⟨by have := HJ4.out; have := HK2.out; first | omega | exact Nat.le_refl _⟩, ⟨by (with_reducible repeat (first | apply Kd.R_alloc | apply Kd.R_drewN | apply Kd.R_drew)); exact Kd.R_mono HO_5.out (fun _ hk => hk.2)⟩, ⟨by (with_reducible repeat (first | refine blk_drewN ?_ _ | refine blk_drew ?_ | refine blk_alloc ?_ _)); exact BK462.out⟩, ⟨(z27_2 HI443)⟩, ⟨(z27_3 HB)⟩⟩
       ·
        rw [if_neg c21] at H
        have c21b0 : decide (0 < (x5_2.length : Int)) = false := decide_eq_false c21
        have c21b1 : decide (0 < x5_2.length) = false := decide_eq_false (by omega)
        clear c21
        (first | rw [c21b0] | (simp only [i64_w, i32_w]; rw [c21b0]) | skip)
        have H' := Aside0.mk H
        clear H
        go_wp2
        go_meet
        case rel => exact ⟨_, (false), (t460), (t461), (by first | rfl | (simp; done) | (simp [*]; done)), H', ⟨by have := HJ4.out; have := HK2.out; first | omega | exact Nat.le_refl _⟩, ⟨by (with_reducible repeat (first | apply Kd.R_alloc | apply Kd.R_drewN | apply Kd.R_drew)); exact Kd.R_mono (Kd.R_far (p := ⟨gb462, 3, none⟩) (Kd.R_far (p := ⟨gb462, 2, none⟩) (Kd.R_far (p := ⟨gb462, 1, none⟩) (Kd.R_far (p := ⟨gb462, 0, none⟩) (Kd.R_mono HO_5.out (fun k_ hk => (⟨hk, hk.2⟩ : _ ∧ k_ ≠ gb462))) (fun _ hk => hk.2) (.int .i64 t456)) (fun _ hk => hk.2) (.int .i64 t457)) (fun _ hk => hk.2) (.int .i64 t458)) (fun _ hk => hk.2) (.int .i64 t459)) (fun _ hk => hk.1.2)⟩, ⟨by (with_reducible repeat (first | refine blk_drewN ?_ _ | refine blk_drew ?_ | refine blk_alloc ?_ _)); refine blk_put (cs := #[.int .i64 t456, .int .i64 t457, .int .i64 t458, .int .i64 0]) ?_ 3 _ rfl; (with_reducible repeat (first | refine blk_drewN ?_ _ | refine blk_drew ?_ | refine blk_alloc ?_ _)); refine blk_put (cs := #[.int .i64 t456, .int .i64 t457, .int .i64 0, .int .i64 0]) ?_ 2 _ rfl; (with_reducible repeat (first | refine blk_drewN ?_ _ | refine blk_drew ?_ | refine blk_alloc ?_ _)); refine blk_put (cs := #[.int .i64 t456, .int .i64 0, .int .i64 0, .int .i64 0]) ?_ 1 _ rfl; (with_reducible repeat (first | refine blk_drewN ?_ _ | refine blk_drew ?_ | refine blk_alloc ?_ _)); refine blk_put (cs := #[.int .i64 0, .int .i64 0, .int .i64 0, .int .i64 0]) ?_ 0 _ rfl; (with_reducible repeat (first | refine blk_drewN ?_ _ | refine blk_drew ?_ | refine blk_alloc ?_ _)); exact BK462.out⟩, ⟨(z27_2 HI443)⟩, ⟨(z27_3 HB)⟩⟩
      case rest =>
       clear HC15
       try clear c1
       try clear c2
       try clear p2
       try clear c5
       try clear c6
       try clear p6
       try clear c10
       try clear c13
       try clear c13b0
       try clear c19
       try clear c21
       try clear c21b0
       try clear c21b1
       try clear hcz20_0
       try clear hcz20_1
       try clear hcz20_2
       try clear hcz20_3
       try clear hfz20_0
       try clear hfz20_1
       try clear hfz20_2
       try clear hfz20_3
       try clear p2
       try clear p6
       obtain ⟨kq, x36_14, x444001_14, x444002_14, rfl, HA, HJ14, HO_5, BK462, HI443, HB⟩ := hcut
       cases kq with
       | zero => exact absurd HA.out (by simp [spec_DrawNormalPoly.j2])
       | succ kj14 =>
        have H := HA.out
        clear HA
        simp only [spec_DrawNormalPoly.j2] at H
        by_cases c24 : x36_14 = true
        ·
         subst c24
         have H1 : ((spec_l1Cur_pick.f l0 x444001_14 x444002_14 (x5_2.length : Int)).bind fun bt466 => (if 0 ≤ bt466.1 then (if bt466.1 < (x5_2.length : Int) then ((spec_l1Cur_among.f l0 bt466.2.1 bt466.2.2 (([wrap64 (-((rd_T51 x5_2 bt466.1).f0)), (rd_T51 x5_2 bt466.1).f0, 0] : List Int))).bind fun bt473 => (if x5_2.length < 4398046511104 then (spec_DrawNormalPoly.l0 kj14 (wrap64 (1 + t444)) (x5_2 ++ [(⟨bt473.1, (rd_T51 x5_2 bt466.1).f1, (rd_T51 x5_2 bt466.1).f2, (rd_T51 x5_2 bt466.1).f3⟩ : S51)]) x6_4 l0 bt473.2.1 bt473.2.2) else (none))) else (none)) else (none))) = some r := by rw [if_pos rfl] at H; exact H
         clear H
         have H := H1
         clear H1
         replace H := Option.bind_eq_some_iff.mp H
         obtain ⟨⟨t466, t467, t468⟩, A250, H⟩ := H
         replace H : (if 0 ≤ t466 then (if t466 < (x5_2.length : Int) then ((spec_l1Cur_among.f l0 t467 t468 (([wrap64 (-((rd_T51 x5_2 t466).f0)), (rd_T51 x5_2 t466).f0, 0] : List Int))).bind fun bt473 => (if x5_2.length < 4398046511104 then (spec_DrawNormalPoly.l0 kj14 (wrap64 (1 + t444)) (x5_2 ++ [(⟨bt473.1, (rd_T51 x5_2 t466).f1, (rd_T51 x5_2 t466).f2, (rd_T51 x5_2 t466).f3⟩ : S51)]) x6_4 l0 bt473.2.1 bt473.2.2) else (none))) else (none)) else (none)) = some r := H
         have A25 := Aside0.mk A250
         clear A250
         by_cases c26 : 0 ≤ t466
         ·
          rw [if_pos c26] at H
          have c26b0 : decide (0 ≤ t466) = true := decide_eq_true c26
          clear c26
          by_cases c27 : t466 < (x5_2.length : Int)
          ·
           rw [if_pos c27] at H
           have c27b0 : decide (t466 < (x5_2.length : Int)) = true := decide_eq_true c27
           clear c27
           obtain ⟨y470, hy470⟩ : ∃ y_ : List Int, y_ = (([wrap64 (-((rd_T51 x5_2 t466).f0)), (rd_T51 x5_2 t466).f0, 0] : List Int)) := ⟨_, rfl⟩
           replace H : ((spec_l1Cur_among.f l0 t467 t468 y470).bind fun bt473 => (if x5_2.length < 4398046511104 then (spec_DrawNormalPoly.l0 kj14 (wrap64 (1 + t444)) (x5_2 ++ [(⟨bt473.1, (rd_T51 x5_2 t466).f1, (rd_T51 x5_2 t466).f2, (rd_T51 x5_2 t466).f3⟩ : S51)]) x6_4 l0 bt473.2.1 bt473.2.2) else (none))) = some r := by first | (rw [hy470]; with_reducible exact H) | (have H2_ := (Option.bind_some _ _).symm.trans H; rw [hy470]; with_reducible exact H2_) | (have H2_ := (Option.bind_some _ _).symm.trans H; with_reducible exact H2_) | with_reducible exact H | (rw [hy470]; exact H) | exact H
           have Ny470 := Aside0.mk hy470
           clear hy470
           replace H := Option.bind_eq_some_iff.mp H
           obtain ⟨⟨t473, t474, t475⟩, A280, H⟩ := H
           replace H : (if x5_2.length < 4398046511104 then (spec_DrawNormalPoly.l0 kj14 (wrap64 (1 + t444)) (x5_2 ++ [(⟨t473, (rd_T51 x5_2 t466).f1, (rd_T51 x5_2 t466).f2, (rd_T51 x5_2 t466).f3⟩ : S51)]) x6_4 l0 t474 t475) else (none)) = some r := H
           have A28 := Aside0.mk A280
           clear A280
           by_cases c29 : x5_2.length < 4398046511104
           ·
            rw [if_pos c29] at H
            have LMc29 := Aside0.mk c29
            clear c29
            obtain ⟨y476, hy476⟩ : ∃ y_ : List (S51), y_ = (x5_2 ++ [(⟨t473, (rd_T51 x5_2 t466).f1, (rd_T51 x5_2 t466).f2, (rd_T51 x5_2 t466).f3⟩ : S51)]) := ⟨_, rfl⟩
            replace H : (spec_DrawNormalPoly.l0 kj14 (wrap64 (1 + t444)) y476 x6_4 l0 t474 t475) = some r := by first | (rw [hy476]; with_reducible exact H) | (have H2_ := (Option.bind_some _ _).symm.trans H; rw [hy476]; with_reducible exact H2_) | (have H2_ := (Option.bind_some _ _).symm.trans H; with_reducible exact H2_) | with_reducible exact H | (rw [hy476]; exact H) | exact H
            have Ny476 := Aside0.mk hy476
            clear hy476
            have H' := Aside0.mk H
            clear H
            go_wp2_with (first | ((with_reducible refine gate_callee (f := 50) rfl ?_); refine goesL_ (some 40) rfl rfl Try.func50 (by kernel_rfl) rfl #[.pointer (some ⟨gb443, 0, none⟩), .int .i64 (x5_2.length : Int)] rfl zq6 ?_; (with_reducible refine (spec_l1Cur_pick.calls gb443 l0 x444001_14 x444002_14 (x5_2.length : Int) t466 t467 t468 w _ ?side1 ?side2 A25.out).mono ?_); (case side1 => exact z27_2 HI443); (case side2 => exact z27_3 HB); rintro e w30 ⟨rfl, hi, hb, hk⟩; refine ⟨_, rfl, ?_⟩; replace HO_5 := Aside0.mk (Kd.R_mono (Kd.R_keep (IsS67.apart (show IsS67 w _ gb443 l0 x444001_14 x444002_14 from (z27_2 HI443)) (zq3 HO_5) (by decide)) hk (fun _ h => h.2)) (fun _ h => h.1)); replace BK462 := Aside0.mk (KeepBut.blk hk (zq1 BK462) NB462_443.out (by simp)); replace HB := Aside0.mk (hb); replace HI443 := Aside0.mk (hi); (try clear hb); (try clear hb2); (try clear hk); (try clear hi); have p469 : 0 ≤ (t466 : Int) := of_decide_eq_true (by first | (with_reducible assumption) | assumption); have q469 : t466 < (x5_2.length : Int) := of_decide_eq_true (by first | (with_reducible assumption) | assumption); obtain ⟨ad469, e469, hx469_0, hx469_1, hx469_2, hx469_3⟩ := at_T51 (Kd.R_reads' HO_5.out).2.2 t466 p469 q469; cases e469; replace p469 := eq_true p469; replace q469 := eq_true q469; have hnb31 := NB462_443.out; have hnc31 := NB443_462.out; have hcz32_0 : w30.cell? ⟨gb462, 0, none⟩ = some (.int .i64 t456) := zc BK462 0; have hcz32_1 : w30.cell? ⟨gb462, 1, none⟩ = some (.int .i64 t457) := zc BK462 1; have hcz32_2 : w30.cell? ⟨gb462, 2, none⟩ = some (.int .i64 t458) := zc BK462 2; have hcz32_3 : w30.cell? ⟨gb462, 3, none⟩ = some (.int .i64 t459) := zc BK462 3; have hfz32_0 := blk_frozen BK462.out 0; have hfz32_1 := blk_frozen BK462.out 1; have hfz32_2 := blk_frozen BK462.out 2; have hfz32_3 := blk_frozen BK462.out 3) | ((with_reducible refine gate_dst (N := 49) rfl ?_); refine Kd.R_lit (Kd.int .i64) _ 3 ?hg (N := 49) ?hd (xs := ([wrap64 (-((rd_T51 x5_2 t466).f0)), (rd_T51 x5_2 t466).f0, 0] : List Int)) (inner := [.int .i64 (wrap64 (-((rd_T51 x5_2 t466).f0))), .int .i64 ((rd_T51 x5_2 t466).f0), .int .i64 0]) (ok := fun _ => True) (okp := fun _ => True) ?hr ?hp (fun _ hk => hk) trivial (Below.refl _ _) (Nat.le_refl _) (by simp) ?_; (case hd => rfl); (case hg => rfl); (case hr => first | (go_simp; done) | (go_simp; rfl)); (case hp => exact (Reps.one (show Kd.M (Kd.int .i64) _ _ _ (wrap64 (-((rd_T51 x5_2 t466).f0))) [.int .i64 (wrap64 (-((rd_T51 x5_2 t466).f0)))] from rfl) (Reps.one (show Kd.M (Kd.int .i64) _ _ _ ((rd_T51 x5_2 t466).f0) [.int .i64 ((rd_T51 x5_2 t466).f0)] from rfl) (Reps.one (show Kd.M (Kd.int .i64) _ _ _ 0 [.int .i64 0] from rfl) (Reps.none _ _))))); intro v471 w33 ho34 hb hg_ hnew_; clear hg_ hnew_; (first | rw [← Ny470.out] at ho34 | (simp only [Int.reduceToNat] at ho34; rw [← Ny470.out] at ho34)); have HO472 := Aside0.mk (Kd.R_lower ho34 (below_size (z27_3 HB))); replace HO_5 := Aside0.mk (Kd.R_below (by (with_reducible repeat (first | apply Kd.R_alloc | apply Kd.R_drewN | apply Kd.R_drew)); exact (Kd.R_mono (Kd.R_far (p := ⟨gb462, 3, none⟩) (Kd.R_far (p := ⟨gb462, 2, none⟩) (Kd.R_far (p := ⟨gb462, 1, none⟩) (Kd.R_far (p := ⟨gb462, 0, none⟩) (Kd.R_mono HO_5.out (fun k_ hk => (⟨hk, hk⟩ : _ ∧ k_ ≠ gb462))) (fun _ hk => hk.2) (.int .i64 ((rd_T51 x5_2 t466).f0))) (fun _ hk => hk.2) (.int .i64 ((rd_T51 x5_2 t466).f1))) (fun _ hk => hk.2) (.int .i64 ((rd_T51 x5_2 t466).f2))) (fun _ hk => hk.2) (.int .i64 ((rd_T51 x5_2 t466).f3))) (fun _ h_ => h_.1))) hb); replace BK462 := Aside0.mk (blk_below (g := gb462) (o := .cells #[.int .i64 ((rd_T51 x5_2 t466).f0), .int .i64 ((rd_T51 x5_2 t466).f1), .int .i64 ((rd_T51 x5_2 t466).f2), .int .i64 ((rd_T51 x5_2 t466).f3)] 51 (0, 0)) (by (with_reducible repeat (first | refine blk_drewN ?_ _ | refine blk_drew ?_ | refine blk_alloc ?_ _)); refine blk_put (cs := #[.int .i64 ((rd_T51 x5_2 t466).f0), .int .i64 ((rd_T51 x5_2 t466).f1), .int .i64 ((rd_T51 x5_2 t466).f2), .int .i64 t459]) ?_ 3 _ rfl; (with_reducible repeat (first | refine blk_drewN ?_ _ | refine blk_drew ?_ | refine blk_alloc ?_ _)); refine blk_put (cs := #[.int .i64 ((rd_T51 x5_2 t466).f0), .int .i64 ((rd_T51 x5_2 t466).f1), .int .i64 t458, .int .i64 t459]) ?_ 2 _ rfl; (with_reducible repeat (first | refine blk_drewN ?_ _ | refine blk_drew ?_ | refine blk_alloc ?_ _)); refine blk_put (cs := #[.int .i64 ((rd_T51 x5_2 t466).f0), .int .i64 t457, .int .i64 t458, .int .i64 t459]) ?_ 1 _ rfl; (with_reducible repeat (first | refine blk_drewN ?_ _ | refine blk_drew ?_ | refine blk_alloc ?_ _)); refine blk_put (cs := #[.int .i64 t456, .int .i64 t457, .int .i64 t458, .int .i64 t459]) ?_ 0 _ rfl; (with_reducible repeat (first | refine blk_drewN ?_ _ | refine blk_drew ?_ | refine blk_alloc ?_ _)); exact BK462.out) hb); replace HI443 := Aside0.mk (IsS67.below (show IsS67 w ((((w30.setCell ⟨gb462, 0, none⟩ (.int .i64 ((rd_T51 x5_2 t466).f0))).setCell ⟨gb462, 1, none⟩ (.int .i64 ((rd_T51 x5_2 t466).f1))).setCell ⟨gb462, 2, none⟩ (.int .i64 ((rd_T51 x5_2 t466).f2))).setCell ⟨gb462, 3, none⟩ (.int .i64 ((rd_T51 x5_2 t466).f3))) gb443 l0 t467 t468 from (z27_2 HI443)) hb); replace HB := Aside0.mk (below_step (z27_3 HB) hb); clear hb ho34; obtain ⟨Ao35, co35, eo35⟩ := Kd.R_slice HO472.out; subst eo35) | ((with_reducible refine gate_callee (f := 64) rfl ?_); refine goesL_ (some 50) rfl rfl Try.func64 (by kernel_rfl) rfl #[.pointer (some ⟨gb443, 0, none⟩), .slice Ao35 y470.length co35] rfl zq6 ?_; (with_reducible refine (spec_l1Cur_among.calls gb443 l0 t467 t468 _ _ y470 t473 t474 t475 w _ ?side1 ?side2 ?side3 ?side4 ?side5 A28.out).mono ?_); (case side1 => exact z27_2 HI443); (case side2 => exact z27_3 HB); (case side3 => repeat (first | exact (Kd.R_reads' HO472.out).2.2 | (with_reducible refine Kd.C_alloc ?_ _) | (with_reducible refine Kd.C_drewN ?_ _) | (with_reducible refine Kd.C_drew ?_))); (case side4 => exact (Kd.R_reads' HO472.out).2.1); (case side5 => exact far_slice (IsS67.own_ne HI443.out HO472.out (by decide))); rintro e w36 ⟨rfl, hi, hb, hk⟩; refine ⟨_, rfl, ?_⟩; replace HO_5 := Aside0.mk (Kd.R_mono (Kd.R_keep (IsS67.apart (show IsS67 w _ gb443 l0 t467 t468 from (z27_2 HI443)) (zq3 HO_5) (by decide)) hk (fun _ h => h.2)) (fun _ h => h.1)); replace BK462 := Aside0.mk (KeepBut.blk hk (zq1 BK462) NB462_443.out (by simp)); replace HO472 := Aside0.mk (Kd.R_mono (Kd.R_keep (IsS67.apart (show IsS67 w _ gb443 l0 t467 t468 from (z27_2 HI443)) (zq3 HO472) (by decide)) hk (fun _ h => h.2)) (fun _ h => h.1)); replace HB := Aside0.mk (hb); replace HI443 := Aside0.mk (hi); (try clear hb); (try clear hb2); (try clear hk); (try clear hi); have hcz37_0 : w36.cell? ⟨gb462, 0, none⟩ = some (.int .i64 ((rd_T51 x5_2 t466).f0)) := zc BK462 0; have hcz37_1 : w36.cell? ⟨gb462, 1, none⟩ = some (.int .i64 ((rd_T51 x5_2 t466).f1)) := zc BK462 1; have hcz37_2 : w36.cell? ⟨gb462, 2, none⟩ = some (.int .i64 ((rd_T51 x5_2 t466).f2)) := zc BK462 2; have hcz37_3 : w36.cell? ⟨gb462, 3, none⟩ = some (.int .i64 ((rd_T51 x5_2 t466).f3)) := zc BK462 3; have hfz37_0 := blk_frozen BK462.out 0; have hfz37_1 := blk_frozen BK462.out 1; have hfz37_2 := blk_frozen BK462.out 2; have hfz37_3 := blk_frozen BK462.out 3) | ((with_reducible refine gate_builtin (b := .append) (xs := #[.tmp 52, .tmp 54]) rfl ?_); at_builtin; refine Kd.R_append k51 (w0 := w) w.heap.size rfl (.tmp 52) (.tmp 54) 25 51 (.agg #[(.int .i64 0), (.int .i64 0), (.int .i64 0), (.int .i64 0)]) 32 rfl Try.underlying25 info51 rfl (by decide) (by omega) (.slice (some ad469) x5_2.length co16) x5_2 (⟨t473, (rd_T51 x5_2 t466).f1, (rd_T51 x5_2 t466).f2, (rd_T51 x5_2 t466).f3⟩ : S51) [.int .i64 t473, .int .i64 ((rd_T51 x5_2 t466).f1), .int .i64 ((rd_T51 x5_2 t466).f2), .int .i64 ((rd_T51 x5_2 t466).f3)] (fun k_ => k_ ≠ gb462) (fun _ => False) rfl (by first | (go_simp; done) | (go_simp; rfl)) ?aP (fun _ hk => hk.elim) ?aF ?aO ?aB ?aS ?aL ?_; (case aP => exact k51_mkM _ _ _ (⟨t473, (rd_T51 x5_2 t466).f1, (rd_T51 x5_2 t466).f2, (rd_T51 x5_2 t466).f3⟩ : S51)); (case aB => exact (z27_3 HB)); (case aF => exact (fun k_ hk => Kd.freshB (g := gb462) (o := .cells #[.int .i64 t473, .int .i64 ((rd_T51 x5_2 t466).f1), .int .i64 ((rd_T51 x5_2 t466).f2), .int .i64 ((rd_T51 x5_2 t466).f3)] 51 (0, 0)) (by (with_reducible repeat (first | refine blk_drewN ?_ _ | refine blk_drew ?_ | refine blk_alloc ?_ _)); refine blk_put (cs := #[.int .i64 ((rd_T51 x5_2 t466).f0), .int .i64 ((rd_T51 x5_2 t466).f1), .int .i64 ((rd_T51 x5_2 t466).f2), .int .i64 ((rd_T51 x5_2 t466).f3)]) ?_ 0 _ rfl; (with_reducible repeat (first | refine blk_drewN ?_ _ | refine blk_drew ?_ | refine blk_alloc ?_ _)); exact BK462.out) k_ hk)); (case aO => exact (by (with_reducible repeat (first | apply Kd.R_alloc | apply Kd.R_drewN | apply Kd.R_drew)); exact Kd.R_mono (Kd.R_far (p := ⟨gb462, 0, none⟩) (Kd.R_mono HO_5.out (fun k_ hk => (⟨hk, hk⟩ : _ ∧ k_ ≠ gb462))) (fun _ hk => hk.2) (.int .i64 t473)) (fun _ hk => hk.1))); (case aS => exact (below_size (z27_3 HB))); (case aL => have := LMc29.out; omega); intro v477 w38 ho hb hg hat; rw [← Ny476.out] at ho; have HO478 := Aside0.mk (ho); replace HI443 := Aside0.mk (zgr HI443 hg (IsS67.own_ne HI443.out HO_5.out (by decide))); replace HO472 := Aside0.mk (Kd.R_over' (by (with_reducible repeat (first | apply Kd.R_alloc | apply Kd.R_drewN | apply Kd.R_drew)); exact (Kd.R_mono (Kd.R_far (p := ⟨gb462, 0, none⟩) (Kd.R_types HO472.out BK462.out (by decide)) (fun _ hk => hk.2) (.int .i64 t473)) (fun _ h_ => h_.1))) (Kd.R_typed (by (with_reducible repeat (first | apply Kd.R_alloc | apply Kd.R_drewN | apply Kd.R_drew)); exact (Kd.R_mono (Kd.R_far (p := ⟨gb462, 0, none⟩) (Kd.R_mono HO_5.out (fun k_ hk => (⟨hk, hk⟩ : _ ∧ k_ ≠ gb462))) (fun _ hk => hk.2) (.int .i64 t473)) (fun _ h_ => h_.1)))) (by decide) hg); replace BK462 := Aside0.mk (blk_grown (g := gb462) (o := .cells #[.int .i64 t473, .int .i64 ((rd_T51 x5_2 t466).f1), .int .i64 ((rd_T51 x5_2 t466).f2), .int .i64 ((rd_T51 x5_2 t466).f3)] 51 (0, 0)) (by (with_reducible repeat (first | refine blk_drewN ?_ _ | refine blk_drew ?_ | refine blk_alloc ?_ _)); refine blk_put (cs := #[.int .i64 ((rd_T51 x5_2 t466).f0), .int .i64 ((rd_T51 x5_2 t466).f1), .int .i64 ((rd_T51 x5_2 t466).f2), .int .i64 ((rd_T51 x5_2 t466).f3)]) ?_ 0 _ rfl; (with_reducible repeat (first | refine blk_drewN ?_ _ | refine blk_drew ?_ | refine blk_alloc ?_ _)); exact BK462.out) hg (Kd.R_away HO_5.out (fun _ hk => hk))); replace HB := Aside0.mk (hb); clear HO_5; clear ho hb hg hat))
            go_roundg kj14
            case measure => have := HJ4.out; have := HK2.out; have := HJ14.out; omega
            case rel => exact ⟨(y476), (t474), (t475), H', ⟨by have := HJ4.out; have := HK2.out; have := HJ14.out; omega⟩, ⟨by (with_reducible repeat (first | apply Kd.R_alloc | apply Kd.R_drewN | apply Kd.R_drew)); exact Kd.R_mono HO478.out (fun _ hk => trivial)⟩, ⟨(z27_2 HI443)⟩, ⟨(z27_3 HB)⟩⟩
           ·
            rw [if_neg c29] at H
            exact absurd H (by simp)
          ·
           rw [if_neg c27] at H
           exact absurd H (by simp)
         ·
          rw [if_neg c26] at H
          exact absurd H (by simp)
        ·
         replace c24 := Bool.eq_false_iff.mpr c24
         subst c24
         have H1 : (if x5_2.length < 4398046511104 then (spec_DrawNormalPoly.l0 kj14 (wrap64 (1 + t444)) (x5_2 ++ [(⟨t456, t457, t458, t459⟩ : S51)]) x6_4 l0 x444001_14 x444002_14) else (none)) = some r := by rw [if_neg (show ¬ (false = true) by decide)] at H; exact H
         clear H
         have H := H1
         clear H1
         by_cases c39 : x5_2.length < 4398046511104
         ·
          rw [if_pos c39] at H
          have LMc39 := Aside0.mk c39
          clear c39
          obtain ⟨y479, hy479⟩ : ∃ y_ : List (S51), y_ = (x5_2 ++ [(⟨t456, t457, t458, t459⟩ : S51)]) := ⟨_, rfl⟩
          replace H : (spec_DrawNormalPoly.l0 kj14 (wrap64 (1 + t444)) y479 x6_4 l0 x444001_14 x444002_14) = some r := by first | (rw [hy479]; with_reducible exact H) | (have H2_ := (Option.bind_some _ _).symm.trans H; rw [hy479]; with_reducible exact H2_) | (have H2_ := (Option.bind_some _ _).symm.trans H; with_reducible exact H2_) | with_reducible exact H | (rw [hy479]; exact H) | exact H
          have Ny479 := Aside0.mk hy479
          clear hy479
          have H' := Aside0.mk H
          clear H
          have hnb40 := NB462_443.out
          have hnc40 := NB443_462.out
          have hcz41_0 : wc.cell? ⟨gb462, 0, none⟩ = some (.int .i64 t456) := zc BK462 0
          have hcz41_1 : wc.cell? ⟨gb462, 1, none⟩ = some (.int .i64 t457) := zc BK462 1
          have hcz41_2 : wc.cell? ⟨gb462, 2, none⟩ = some (.int .i64 t458) := zc BK462 2
          have hcz41_3 : wc.cell? ⟨gb462, 3, none⟩ = some (.int .i64 t459) := zc BK462 3
          have hfz41_0 := blk_frozen BK462.out 0
          have hfz41_1 := blk_frozen BK462.out 1
          have hfz41_2 := blk_frozen BK462.out 2
          have hfz41_3 := blk_frozen BK462.out 3
          go_wp2_with (first | ((with_reducible refine gate_builtin (b := .append) (xs := #[.tmp 52, .tmp 54]) rfl ?_); at_builtin; refine Kd.R_append k51 (w0 := w) w.heap.size rfl (.tmp 52) (.tmp 54) 25 51 (.agg #[(.int .i64 0), (.int .i64 0), (.int .i64 0), (.int .i64 0)]) 32 rfl Try.underlying25 info51 rfl (by decide) (by omega) (.slice Ao16 x5_2.length co16) x5_2 (⟨t456, t457, t458, t459⟩ : S51) [.int .i64 t456, .int .i64 t457, .int .i64 t458, .int .i64 t459] (fun k_ => k_ ≠ gb462) (fun _ => False) rfl rfl ?aP (fun _ hk => hk.elim) ?aF ?aO ?aB ?aS ?aL ?_; (case aP => exact k51_mkM _ _ _ (⟨t456, t457, t458, t459⟩ : S51)); (case aB => exact (z27_3 HB)); (case aF => exact (fun k_ hk => Kd.freshB (g := gb462) (o := .cells #[.int .i64 t456, .int .i64 t457, .int .i64 t458, .int .i64 t459] 51 (0, 0)) (zq1 BK462) k_ hk)); (case aO => exact (zq3 HO_5)); (case aS => exact (below_size (z27_3 HB))); (case aL => have := LMc39.out; omega); intro v480 w42 ho hb hg hat; rw [← Ny479.out] at ho; have HO481 := Aside0.mk (ho); replace BK462 := Aside0.mk (blk_grown (g := gb462) (o := .cells #[.int .i64 t456, .int .i64 t457, .int .i64 t458, .int .i64 t459] 51 (0, 0)) (zq1 BK462) hg (Kd.R_away HO_5.out (fun _ hk => hk))); replace HI443 := Aside0.mk (zgr HI443 hg (IsS67.own_ne HI443.out HO_5.out (by decide))); replace HB := Aside0.mk (hb); clear HO_5; clear ho hb hg hat))
          go_roundg kj14
          case measure => have := HJ4.out; have := HK2.out; have := HJ14.out; omega
          case rel => exact ⟨(y479), (x444001_14), (x444002_14), H', ⟨by have := HJ4.out; have := HK2.out; have := HJ14.out; omega⟩, ⟨by (with_reducible repeat (first | apply Kd.R_alloc | apply Kd.R_drewN | apply Kd.R_drew)); exact Kd.R_mono HO481.out (fun _ hk => trivial)⟩, ⟨(z27_2 HI443)⟩, ⟨(z27_3 HB)⟩⟩
         ·
          rw [if_neg c39] at H
          exact absurd H (by simp)
     ·
      rw [if_neg c13] at H
      have c13b0 : decide ((x5_2.length : Int) < x6_4) = false := decide_eq_false c13
      clear c13
      have HC43 := Aside0.mk H
      clear H
      obtain ⟨Ao44, co44, eo44⟩ := Kd.R_slice HO_5.out
      subst eo44
      go_upto_region 14 with (fail)
      go_cut [61] (fun v61 wc => ∃ (kq : Nat) (x61_42 : Bool) (x444001_42 : Int) (x444002_42 : Int), v61 = .bool x61_42 ∧ Aside0 (spec_DrawNormalPoly.j3 kq x5_2 x61_42 l0 x444001_42 x444002_42 = some r) ∧ Aside0 (kq ≤ k2) ∧ Aside0 (Kd.R k51 51 wc w.heap.size (fun _ => True) (.slice Ao44 x5_2.length co44) x5_2) ∧ Aside0 (IsS67 w wc gb443 l0 x444001_42 x444002_42) ∧ Aside0 (Below w.heap.size w wc))
      case first =>
       have H := HC43.out
       clear HC43
       by_cases c45 : x6_4 > 0
       ·
        rw [if_pos c45] at H
        have c45b0 : decide (0 < x6_4) = true := decide_eq_true c45
        clear c45
        (first | rw [c45b0] | (simp only [i64_w, i32_w]; rw [c45b0]) | skip)
        replace H := Option.bind_eq_some_iff.mp H
        obtain ⟨⟨t482, t483, t484⟩, A460, H⟩ := H
        replace H : (spec_DrawNormalPoly.j3 k2 x5_2 t482 l0 t483 t484) = some r := H
        have A46 := Aside0.mk A460
        clear A460
        have H' := Aside0.mk H
        clear H
        go_wp2_with (first | (go_at_call 52; (with_reducible refine (spec_l1Cur_one.calls gb443 l0 x444001_2 x444002_2 16 t482 t483 t484 w _ ?side1 ?side2 A46.out).mono ?_); (case side1 => exact z27_0 HI443); (case side2 => exact z27_1 HB); rintro e w47 ⟨rfl, hi, hb, hk⟩; replace HO_5 := Aside0.mk (Kd.R_mono (Kd.R_keep (IsS67.apart (show IsS67 w _ gb443 l0 x444001_2 x444002_2 from (z27_0 HI443)) (zq3 HO_5) (by decide)) hk (fun _ h => h.2)) (fun _ h => h.1)); replace HB := Aside0.mk (hb); replace HI443 := Aside0.mk (hi); (try clear hb); (try clear hb2); (try clear hk); (try clear hi)))
        go_meet
        case rel => exact ⟨_, (t482), (t483), (t484), (by first | rfl | (simp; done) | (simp [*]; done)), H', ⟨by have := HJ4.out; have := HK2.out; first | omega | exact Nat.le_refl _⟩, ⟨by (with_reducible repeat (first | apply Kd.R_alloc | apply Kd.R_drewN | apply Kd.R_drew)); exact HO_5.out⟩, ⟨(z27_0 HI443)⟩, ⟨(z27_1 HB)⟩⟩
       ·
        rw [if_neg c45] at H
        have c45b0 : decide (0 < x6_4) = false := decide_eq_false c45
        clear c45
        (first | rw [c45b0] | (simp only [i64_w, i32_w]; rw [c45b0]) | skip)
        have H' := Aside0.mk H
        clear H
        go_wp2
        go_meet
        case rel => exact ⟨_, (false), (x444001_2), (x444002_2), (by first | rfl | (simp; done) | (simp [*]; done)), H', ⟨by have := HJ4.out; have := HK2.out; first | omega | exact Nat.le_refl _⟩, ⟨by (with_reducible repeat (first | apply Kd.R_alloc | apply Kd.R_drewN | apply Kd.R_drew)); exact HO_5.out⟩, ⟨(z27_0 HI443)⟩, ⟨(z27_1 HB)⟩⟩
      case rest =>
       clear HC43
       try clear c1
       try clear c2
       try clear p2
       try clear c3
       try clear c4
       try clear p4
       try clear q4
       try clear hx4
       try clear c5
       try clear c6
       try clear p6
       try clear c10
       try clear c13
       try clear c13b0
       try clear c19
       try clear c21
       try clear c21b0
       try clear c21b1
       try clear c24
       try clear c26
       try clear c26b0
       try clear c27
       try clear c27b0
       try clear c29
       try clear c31
       try clear c39
       try clear c40
       try clear c45
       try clear c45b0
       try clear p46
       try clear q46
       try clear hx46
       try clear hcz20_0
       try clear hcz20_1
       try clear hcz20_2
       try clear hcz20_3
       try clear hcz32_0
       try clear hcz32_1
       try clear hcz32_2
       try clear hcz32_3
       try clear hcz37_0
       try clear hcz37_1
       try clear hcz37_2
       try clear hcz37_3
       try clear hcz41_0
       try clear hcz41_1
       try clear hcz41_2
       try clear hcz41_3
       try clear hfz20_0
       try clear hfz20_1
       try clear hfz20_2
       try clear hfz20_3
       try clear hfz32_0
       try clear hfz32_1
       try clear hfz32_2
       try clear hfz32_3
       try clear hfz37_0
       try clear hfz37_1
       try clear hfz37_2
       try clear hfz37_3
       try clear hfz41_0
       try clear hfz41_1
       try clear hfz41_2
       try clear hfz41_3
       try clear hx469_0
       try clear hx469_1
       try clear hx469_2
       try clear hx469_3
       try clear p2
       try clear p469
       try clear p6
       try clear q469
       obtain ⟨kq, x61_42, x444001_42, x444002_42, rfl, HA, HJ42, HO_5, HI443, HB⟩ := hcut
       cases kq with
       | zero => exact absurd HA.out (by simp [spec_DrawNormalPoly.j3])
       | succ kj42 =>
        have H := HA.out
        clear HA
        simp only [spec_DrawNormalPoly.j3] at H
        by_cases c48 : x61_42 = true
        ·
         subst c48
         have H1 : ((spec_l1Cur_among.f l0 x444001_42 x444002_42 (([1, 1001] : List Int))).bind fun bt488 => ((spec_l1Cur_among.f l0 bt488.2.1 bt488.2.2 (([5, 1, (-1)] : List Int))).bind fun bt494 => (if 0 < (x5_2.length : Int) then (some (x5_2.set (0 : Int).toNat (⟨bt488.1, bt494.1, 0, 0⟩ : S51))) else (none)))) = some r := by rw [if_pos rfl] at H; exact H
         clear H
         have H := H1
         clear H1
         obtain ⟨y485, hy485⟩ : ∃ y_ : List Int, y_ = (([1, 1001] : List Int)) := ⟨_, rfl⟩
         replace H : ((spec_l1Cur_among.f l0 x444001_42 x444002_42 y485).bind fun bt488 => ((spec_l1Cur_among.f l0 bt488.2.1 bt488.2.2 (([5, 1, (-1)] : List Int))).bind fun bt494 => (if 0 < (x5_2.length : Int) then (some (x5_2.set (0 : Int).toNat (⟨bt488.1, bt494.1, 0, 0⟩ : S51))) else (none)))) = some r := by first | (rw [hy485]; with_reducible exact H) | (have H2_ := (Option.bind_some _ _).symm.trans H; rw [hy485]; with_reducible exact H2_) | (have H2_ := (Option.bind_some _ _).symm.trans H; with_reducible exact H2_) | with_reducible exact H | (rw [hy485]; exact H) | exact H
         have Ny485 := Aside0.mk hy485
         clear hy485
         replace H := Option.bind_eq_some_iff.mp H
         obtain ⟨⟨t488, t489, t490⟩, A490, H⟩ := H
         replace H : ((spec_l1Cur_among.f l0 t489 t490 (([5, 1, (-1)] : List Int))).bind fun bt494 => (if 0 < (x5_2.length : Int) then (some (x5_2.set (0 : Int).toNat (⟨t488, bt494.1, 0, 0⟩ : S51))) else (none))) = some r := H
         have A49 := Aside0.mk A490
         clear A490
         obtain ⟨y491, hy491⟩ : ∃ y_ : List Int, y_ = (([5, 1, (-1)] : List Int)) := ⟨_, rfl⟩
         replace H : ((spec_l1Cur_among.f l0 t489 t490 y491).bind fun bt494 => (if 0 < (x5_2.length : Int) then (some (x5_2.set (0 : Int).toNat (⟨t488, bt494.1, 0, 0⟩ : S51))) else (none))) = some r := by first | (rw [hy491]; with_reducible exact H) | (have H2_ := (Option.bind_some _ _).symm.trans H; rw [hy491]; with_reducible exact H2_) | (have H2_ := (Option.bind_some _ _).symm.trans H; with_reducible exact H2_) | with_reducible exact H | (rw [hy491]; exact H) | exact H
         have Ny491 := Aside0.mk hy491
         clear hy491
         replace H := Option.bind_eq_some_iff.mp H
         obtain ⟨⟨t494, t495, t496⟩, A500, H⟩ := H
         replace H : (if 0 < (x5_2.length : Int) then (some (x5_2.set (0 : Int).toNat (⟨t488, t494, 0, 0⟩ : S51))) else (none)) = some r := H
         have A50 := Aside0.mk A500
         clear A500
         by_cases c51 : 0 < (x5_2.length : Int)
         ·
          rw [if_pos c51] at H
          have c51b0 : decide (0 < (x5_2.length : Int)) = true := decide_eq_true c51
          have c51b1 : decide (0 < x5_2.length) = true := decide_eq_true (by omega)
          clear c51
          obtain ⟨y497, hy497⟩ : ∃ y_ : List (S51), y_ = (x5_2.set (0 : Int).toNat (⟨t488, t494, 0, 0⟩ : S51)) := ⟨_, rfl⟩
          replace H : (some y497) = some r := by first | (rw [hy497]; with_reducible exact H) | (have H2_ := (Option.bind_some _ _).symm.trans H; rw [hy497]; with_reducible exact H2_) | (have H2_ := (Option.bind_some _ _).symm.trans H; with_reducible exact H2_) | with_reducible exact H | (rw [hy497]; exact H) | exact H
          have Ny497 := Aside0.mk hy497
          clear hy497
          obtain rfl := Option.some.inj H
          go_wp2_with (first | ((with_reducible refine gate_dst (N := 64) rfl ?_); refine Kd.R_lit (Kd.int .i64) _ 3 ?hg (N := 64) ?hd (xs := ([1, 1001] : List Int)) (inner := [.int .i64 1, .int .i64 1001]) (ok := fun _ => True) (okp := fun _ => True) ?hr ?hp (fun _ hk => hk) trivial (Below.refl _ _) (Nat.le_refl _) (by simp) ?_; (case hd => rfl); (case hg => rfl); (case hr => first | (go_simp; done) | (go_simp; rfl)); (case hp => exact (Reps.one (show Kd.M (Kd.int .i64) _ _ _ 1 [.int .i64 1] from rfl) (Reps.one (show Kd.M (Kd.int .i64) _ _ _ 1001 [.int .i64 1001] from rfl) (Reps.none _ _)))); intro v486 w53 ho54 hb hg_ hnew_; clear hg_ hnew_; (first | rw [← Ny485.out] at ho54 | (simp only [Int.reduceToNat] at ho54; rw [← Ny485.out] at ho54)); have HO487 := Aside0.mk (Kd.R_lower ho54 (below_size (z27_1 HB))); replace HO_5 := Aside0.mk (Kd.R_below (zq3 HO_5) hb); replace HI443 := Aside0.mk (IsS67.below (z27_0 HI443) hb); replace HB := Aside0.mk (below_step (z27_1 HB) hb); clear hb ho54; obtain ⟨Ao55, co55, eo55⟩ := Kd.R_slice HO487.out; subst eo55) | ((with_reducible refine gate_callee (f := 64) rfl ?_); refine goesL_ (some 65) rfl rfl Try.func64 (by kernel_rfl) rfl #[.pointer (some ⟨gb443, 0, none⟩), .slice Ao55 y485.length co55] rfl zq6 ?_; (with_reducible refine (spec_l1Cur_among.calls gb443 l0 x444001_42 x444002_42 _ _ y485 t488 t489 t490 w _ ?side1 ?side2 ?side3 ?side4 ?side5 A49.out).mono ?_); (case side1 => exact z27_0 HI443); (case side2 => exact z27_1 HB); (case side3 => repeat (first | exact (Kd.R_reads' HO487.out).2.2 | (with_reducible refine Kd.C_alloc ?_ _) | (with_reducible refine Kd.C_drewN ?_ _) | (with_reducible refine Kd.C_drew ?_))); (case side4 => exact (Kd.R_reads' HO487.out).2.1); (case side5 => exact far_slice (IsS67.own_ne HI443.out HO487.out (by decide))); rintro e w56 ⟨rfl, hi, hb, hk⟩; refine ⟨_, rfl, ?_⟩; replace HO_5 := Aside0.mk (Kd.R_mono (Kd.R_keep (IsS67.apart (show IsS67 w _ gb443 l0 x444001_42 x444002_42 from (z27_0 HI443)) (zq3 HO_5) (by decide)) hk (fun _ h => h.2)) (fun _ h => h.1)); replace HO487 := Aside0.mk (Kd.R_mono (Kd.R_keep (IsS67.apart (show IsS67 w _ gb443 l0 x444001_42 x444002_42 from (z27_0 HI443)) (zq3 HO487) (by decide)) hk (fun _ h => h.2)) (fun _ h => h.1)); replace HB := Aside0.mk (hb); replace HI443 := Aside0.mk (hi); (try clear hb); (try clear hb2); (try clear hk); (try clear hi)) | ((with_reducible refine gate_dst (N := 67) rfl ?_); refine Kd.R_lit (Kd.int .i64) _ 3 ?hg (N := 67) ?hd (xs := ([5, 1, (-1)] : List Int)) (inner := [.int .i64 5, .int .i64 1, .int .i64 (-1)]) (ok := fun _ => True) (okp := fun _ => True) ?hr ?hp (fun _ hk => hk) trivial (Below.refl _ _) (Nat.le_refl _) (by simp) ?_; (case hd => rfl); (case hg => rfl); (case hr => first | (go_simp; done) | (go_simp; rfl)); (case hp => exact (Reps.one (show Kd.M (Kd.int .i64) _ _ _ 5 [.int .i64 5] from rfl) (Reps.one (show Kd.M (Kd.int .i64) _ _ _ 1 [.int .i64 1] from rfl) (Reps.one (show Kd.M (Kd.int .i64) _ _ _ (-1) [.int .i64 (-1)] from rfl) (Reps.none _ _))))); intro v492 w57 ho58 hb hg_ hnew_; clear hg_ hnew_; (first | rw [← Ny491.out] at ho58 | (simp only [Int.reduceToNat] at ho58; rw [← Ny491.out] at ho58)); have HO493 := Aside0.mk (Kd.R_lower (Kd.R_new' ho58 (Kd.R_lt (zq3 HO487))) (below_size (z27_1 HB))); replace HO_5 := Aside0.mk (Kd.R_below (zq3 HO_5) hb); replace HO487 := Aside0.mk (Kd.R_elder' (zq3 HO487) (Kd.R_base ho58) hb); replace HI443 := Aside0.mk (IsS67.below (z27_0 HI443) hb); replace HB := Aside0.mk (below_step (z27_1 HB) hb); clear hb ho58; obtain ⟨Ao59, co59, eo59⟩ := Kd.R_slice HO493.out; subst eo59) | ((with_reducible refine gate_callee (f := 64) rfl ?_); refine goesL_ (some 68) rfl rfl Try.func64 (by kernel_rfl) rfl #[.pointer (some ⟨gb443, 0, none⟩), .slice Ao59 y491.length co59] rfl zq6 ?_; (with_reducible refine (spec_l1Cur_among.calls gb443 l0 t489 t490 _ _ y491 t494 t495 t496 w _ ?side1 ?side2 ?side3 ?side4 ?side5 A50.out).mono ?_); (case side1 => exact z27_0 HI443); (case side2 => exact z27_1 HB); (case side3 => repeat (first | exact (Kd.R_reads' HO493.out).2.2 | (with_reducible refine Kd.C_alloc ?_ _) | (with_reducible refine Kd.C_drewN ?_ _) | (with_reducible refine Kd.C_drew ?_))); (case side4 => exact (Kd.R_reads' HO493.out).2.1); (case side5 => exact far_slice (IsS67.own_ne HI443.out HO493.out (by decide))); rintro e w60 ⟨rfl, hi, hb, hk⟩; refine ⟨_, rfl, ?_⟩; replace HO_5 := Aside0.mk (Kd.R_mono (Kd.R_keep (IsS67.apart (show IsS67 w _ gb443 l0 t489 t490 from (z27_0 HI443)) (zq3 HO_5) (by decide)) hk (fun _ h => h.2)) (fun _ h => h.1)); replace HO487 := Aside0.mk (Kd.R_mono (Kd.R_keep (IsS67.apart (show IsS67 w _ gb443 l0 t489 t490 from (z27_0 HI443)) (zq3 HO487) (by decide)) hk (fun _ h => h.2)) (fun _ h => h.1)); replace HO493 := Aside0.mk (Kd.R_mono (Kd.R_keep (IsS67.apart (show IsS67 w _ gb443 l0 t489 t490 from (z27_0 HI443)) (zq3 HO493) (by decide)) hk (fun _ h => h.2)) (fun _ h => h.1)); replace HB := Aside0.mk (hb); replace HI443 := Aside0.mk (hi); (try clear hb); (try clear hb2); (try clear hk); (try clear hi); have p52 : 0 ≤ (0 : Int) := (by omega); have q52 : (0 : Int) < ((x5_2.length : Int) : Int) := of_decide_eq_true (by first | (with_reducible assumption) | assumption); have qi52 : (0 < x5_2.length) = True := eq_true (by omega); obtain ⟨go52, co52, eo52, gb52, gl52, cl52, HG52⟩ := Kd.R_form HO_5.out (by omega); (first | cases eo52 | (injection eo52 with ea_ en_ ec_; (first | subst ea_ | (injection ea_ with ea_; subst ea_)); subst ec_; clear en_)); have GB52 := Aside0.mk gb52; have GG52 := Aside0.mk HG52; clear gb52 gl52 HG52; obtain ⟨ce52, hcl52, hM52, hcc52, hfr52⟩ := Kd.R_elem HO_5.out z51 (0 : Int) p52 q52; obtain rfl := k51_openM hM52; have hx52_0 : w60.cell? ⟨go52, (0 : Int).toNat * 4, none⟩ = some (.int .i64 ((rd_T51 x5_2 0).f0)) := hcc52 0 _ rfl; have hx52_1 : w60.cell? ⟨go52, (0 : Int).toNat * 4 + 1, none⟩ = some (.int .i64 ((rd_T51 x5_2 0).f1)) := hcc52 1 _ rfl; have hx52_2 : w60.cell? ⟨go52, (0 : Int).toNat * 4 + 2, none⟩ = some (.int .i64 ((rd_T51 x5_2 0).f2)) := hcc52 2 _ rfl; have hx52_3 : w60.cell? ⟨go52, (0 : Int).toNat * 4 + 3, none⟩ = some (.int .i64 ((rd_T51 x5_2 0).f3)) := hcc52 3 _ rfl; have hf52_0 : w60.frozen? ⟨go52, (0 : Int).toNat * 4, none⟩ = false := hfr52 0; have hf52_1 : w60.frozen? ⟨go52, (0 : Int).toNat * 4 + 1, none⟩ = false := hfr52 1; have hf52_2 : w60.frozen? ⟨go52, (0 : Int).toNat * 4 + 2, none⟩ = false := hfr52 2; have hf52_3 : w60.frozen? ⟨go52, (0 : Int).toNat * 4 + 3, none⟩ = false := hfr52 3; clear hcl52 hcc52 hfr52 hM52; (try rw [show ((0 : Int)).toNat = 0 from rfl] at hx52_0); (try simp only [Nat.reduceMul, Nat.zero_mul, Nat.zero_add, Nat.reduceAdd] at hx52_0); (try rw [show ((0 : Int)).toNat = 0 from rfl] at hf52_0); (try simp only [Nat.reduceMul, Nat.zero_mul, Nat.zero_add, Nat.reduceAdd] at hf52_0); (try rw [show ((0 : Int)).toNat = 0 from rfl] at hx52_1); (try simp only [Nat.reduceMul, Nat.zero_mul, Nat.zero_add, Nat.reduceAdd] at hx52_1); (try rw [show ((0 : Int)).toNat = 0 from rfl] at hf52_1); (try simp only [Nat.reduceMul, Nat.zero_mul, Nat.zero_add, Nat.reduceAdd] at hf52_1); (try rw [show ((0 : Int)).toNat = 0 from rfl] at hx52_2); (try simp only [Nat.reduceMul, Nat.zero_mul, Nat.zero_add, Nat.reduceAdd] at hx52_2); (try rw [show ((0 : Int)).toNat = 0 from rfl] at hf52_2); (try simp only [Nat.reduceMul, Nat.zero_mul, Nat.zero_add, Nat.reduceAdd] at hf52_2); (try rw [show ((0 : Int)).toNat = 0 from rfl] at hx52_3); (try simp only [Nat.reduceMul, Nat.zero_mul, Nat.zero_add, Nat.reduceAdd] at hx52_3); (try rw [show ((0 : Int)).toNat = 0 from rfl] at hf52_3); (try simp only [Nat.reduceMul, Nat.zero_mul, Nat.zero_add, Nat.reduceAdd] at hf52_3); replace p52 := eq_true p52; replace q52 := eq_true q52; have HX61 := Aside0.mk (show Kd.R k51 51 w60 w.heap.size (fun _ => True) (.slice (some ⟨go52, 0, none⟩) x5_2.length co44) x5_2 from (zq3 HO_5)); obtain ⟨ce61, hcl61, hM61, hcc61, hfr61⟩ := Kd.R_elem HX61.out z51 (0 : Int) (by omega) (by have h_ : (0 : Int) < ((x5_2.length : Int) : Int) := of_decide_eq_true (by first | (with_reducible assumption) | assumption); first | exact h_ | (have e_ := (Kd.R_reads' HO_5.out).1; omega) | simpa using h_); obtain rfl := k51_openM hM61; have HP61 := Kd.R_seg HX61.out (0 : Int) (by omega) (by have h_ : (0 : Int) < ((x5_2.length : Int) : Int) := of_decide_eq_true (by first | (with_reducible assumption) | assumption); first | exact h_ | (have e_ := (Kd.R_reads' HO_5.out).1; omega) | simpa using h_) (seg := [.int .i64 t488, .int .i64 t494, .int .i64 0, .int .i64 0]) (j := 0) hcl61 hcc61 (show 4 ≤ 4 from by decide) (x' := (⟨t488, t494, 0, 0⟩ : S51)) (k51_mkM _ _ _ (⟨t488, t494, 0, 0⟩ : S51) ) (fun _ hk => hk); have hx61_0 := hcc61 0 _ rfl; (try simp only [show (k51).sz = 4 from rfl, Nat.mul_one, Nat.add_zero] at hx61_0); (try rw [show ((0 : Int)).toNat = 0 from rfl] at hx61_0); (try simp only [Nat.reduceMul, Nat.zero_mul, Nat.zero_add, Nat.reduceAdd] at hx61_0); have hf61_0 := hfr61 0; (try simp only [show (k51).sz = 4 from rfl, Nat.mul_one, Nat.add_zero] at hf61_0); (try rw [show ((0 : Int)).toNat = 0 from rfl] at hf61_0); (try simp only [Nat.reduceMul, Nat.zero_mul, Nat.zero_add, Nat.reduceAdd] at hf61_0); have hx61_1 := hcc61 1 _ rfl; (try simp only [show (k51).sz = 4 from rfl, Nat.mul_one, Nat.add_zero] at hx61_1); (try rw [show ((0 : Int)).toNat = 0 from rfl] at hx61_1); (try simp only [Nat.reduceMul, Nat.zero_mul, Nat.zero_add, Nat.reduceAdd] at hx61_1); have hf61_1 := hfr61 1; (try simp only [show (k51).sz = 4 from rfl, Nat.mul_one, Nat.add_zero] at hf61_1); (try rw [show ((0 : Int)).toNat = 0 from rfl] at hf61_1); (try simp only [Nat.reduceMul, Nat.zero_mul, Nat.zero_add, Nat.reduceAdd] at hf61_1); have hx61_2 := hcc61 2 _ rfl; (try simp only [show (k51).sz = 4 from rfl, Nat.mul_one, Nat.add_zero] at hx61_2); (try rw [show ((0 : Int)).toNat = 0 from rfl] at hx61_2); (try simp only [Nat.reduceMul, Nat.zero_mul, Nat.zero_add, Nat.reduceAdd] at hx61_2); have hf61_2 := hfr61 2; (try simp only [show (k51).sz = 4 from rfl, Nat.mul_one, Nat.add_zero] at hf61_2); (try rw [show ((0 : Int)).toNat = 0 from rfl] at hf61_2); (try simp only [Nat.reduceMul, Nat.zero_mul, Nat.zero_add, Nat.reduceAdd] at hf61_2); have hx61_3 := hcc61 3 _ rfl; (try simp only [show (k51).sz = 4 from rfl, Nat.mul_one, Nat.add_zero] at hx61_3); (try rw [show ((0 : Int)).toNat = 0 from rfl] at hx61_3); (try simp only [Nat.reduceMul, Nat.zero_mul, Nat.zero_add, Nat.reduceAdd] at hx61_3); have hf61_3 := hfr61 3; (try simp only [show (k51).sz = 4 from rfl, Nat.mul_one, Nat.add_zero] at hf61_3); (try rw [show ((0 : Int)).toNat = 0 from rfl] at hf61_3); (try simp only [Nat.reduceMul, Nat.zero_mul, Nat.zero_add, Nat.reduceAdd] at hf61_3); clear hcl61 hcc61 hfr61 hM61) | ((with_reducible refine gate_store (t := 51) (p := 70) rfl ?_); refine store_event (t := 51) (p := 70) (v := ?vo_w62) (w1 := ((((w60.setCell ⟨go52, 0, none⟩ (.int .i64 t488)).setCell ⟨go52, 1, none⟩ (.int .i64 t494)).setCell ⟨go52, 2, none⟩ (.int .i64 0)).setCell ⟨go52, 3, none⟩ (.int .i64 0))) ?hg ?ho ?hn ?hr ?_; (case ho => rfl); (case hg => rfl); (case hn => rfl); (case hr => first | (go_simp; done) | (go_simp; rfl)); intro w62 hw; have hg : w60.grownBy w62 (some go52) := (by rw [hw]; exact HP61.2); have hp_ : Kd.R k51 51 w62 w.heap.size (fun _ => True) (.slice (some ⟨go52, 0, none⟩) x5_2.length co44) y497 := (by rw [hw, Ny497.out]; exact HP61.1); clear HP61; replace HI443 := Aside0.mk (zgr HI443 hg (IsS67.own_ne HI443.out HO_5.out (by decide))); replace HO487 := Aside0.mk (Kd.R_over' (v := (.slice (some ⟨go52, 0, none⟩) x5_2.length co44)) (zq3 HO487) (Kd.R_typed HO_5.out) (by decide) hg); replace HO493 := Aside0.mk (Kd.R_over' (v := (.slice (some ⟨go52, 0, none⟩) x5_2.length co44)) (zq3 HO493) (Kd.R_typed HO_5.out) (by decide) hg); replace HO_5 := Aside0.mk (hp_); replace HB := Aside0.mk ((by rw [hw]; exact below_set (below_set (below_set (below_set (HB.out) GB52.out) GB52.out) GB52.out) GB52.out : Below w.heap.size w w62)); clear hg hw hp_))
          go_ret
          exact ⟨_, by first | rfl | (simp [errW_none, errW_some] <;> rfl) | (simp [*, errW_none, errW_some] <;> rfl), by (with_reducible repeat (first | apply Kd.R_alloc | apply Kd.R_drewN | apply Kd.R_drew)); exact HO_5.out, (z27_1 HB)⟩
         ·
          rw [if_neg c51] at H
          exact absurd H (by simp)
        ·
         replace c48 := Bool.eq_false_iff.mpr c48
         subst c48
         have H1 : (some x5_2) = some r := by rw [if_neg (show ¬ (false = true) by decide)] at H; exact H
         clear H
         have H := H1
         clear H1
         obtain rfl := Option.some.inj H
         go_wp2
         go_ret
         exact ⟨_, by first | rfl | (simp [errW_none, errW_some] <;> rfl) | (simp [*, errW_none, errW_some] <;> rfl), by (with_reducible repeat (first | apply Kd.R_alloc | apply Kd.R_drewN | apply Kd.R_drew)); exact HO_5.out, (z27_1 HB)⟩
end Go.Proofs.Ythanmlojikidbaa.PD
