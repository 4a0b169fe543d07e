-- By wip/mk/drv.py
import Derived.Test.YtemjjknnelngcaaDoorQSystxtPDx0
import Derived.Test.YtemjjknnelngcaaDoorQSystxtPDx1
import Derived.Test.YtemjjknnelngcaaDoorQSystxtPDx3
namespace Go.Proofs.YtemjjknnelngcaaDoor.PD
open Go.RowKit Go.Proofs.YtemjjknnelngcaaDoorW.PrintWords Go.Proofs.YtemjjknnelngcaaDoorW.PrintLast Go.Proofs.YtemjjknnelngcaaDoorW.PrintMore
attribute [local go_sem] max2_int min2_int max_two min_two max_three min_three max_four min_four
set_option linter.unusedVariables false
set_option linter.unusedSimpArgs false
/-! ### impl_termText: function 27 -/
-- PROOF
theorem impl_termText.info : (Tryd.prog.info? 9).map (fun i => (i.zero, i.size, i.bytes)) = some (some (.string ⟨#[]⟩), 1, 16) := by kernel_rfl
theorem impl_termText.pt_len {u : ByteArray} {e : Int} {p : List ByteArray} (h : impl_termText.pt u e = some p) : p.length ≤ 1 := by
 unfold impl_termText.pt at h
 by_cases c1 : e = 1
 ·
  rw [if_pos c1] at h; obtain rfl := Option.some.inj h; simp
 ·
  rw [if_neg c1] at h
  by_cases c2 : e > 1
  ·
   rw [if_pos c2] at h
   obtain ⟨s, hs, h⟩ := Option.bind_eq_some_iff.mp h
   by_cases c3 : (u ++ (⟨#[94]⟩ : ByteArray)).size + s.size ≤ 9223372036854775807
   ·
    rw [if_pos c3] at h; obtain rfl := Option.some.inj h; simp
   ·
    rw [if_neg c3] at h; cases h
  ·
   rw [if_neg c2] at h; obtain rfl := Option.some.inj h; simp
theorem impl_termText.lt {W : World} {g : Nat} {o : Obj} (h : W.heap[g]? = some o) : g < W.heap.size := by
 rcases Nat.lt_or_ge g W.heap.size with h' | h'
 ·
  exact h'
 ·
  rw [Array.getElem?_eq_none h'] at h; cases h
theorem impl_termText.grown {w W W1 : World} {g : Nat} {o : Obj} {v : Value} (h : W.heap[g]? = some o) (hb : Below w.heap.size w W1) (hne : v.ownBlock ≠ some g) (hg : W.grownBy W1 v.ownBlock) : W1.heap[g]? = some o := by
 have hlt : g < W.heap.size := by
  rcases Nat.lt_or_ge g W.heap.size with h' | h'
  ·
   exact h'
  ·
   rw [Array.getElem?_eq_none h'] at h; cases h
 rw [hg.block g hlt (fun he => hne he.symm)]
 exact h
set_option maxHeartbeats 8000000 in
set_option maxRecDepth 100000 in
theorem impl_termText.exps (c x y z : Int) (w : World) : Calls Tryd.prog 36 #[.agg #[.int .i64 c, .int .i64 x, .int .i64 y, .int .i64 z]] w fun e w' => e = .returned (.agg #[.int .i64 x, .int .i64 y, .int .i64 z]) ∧ Below w.heap.size w w' := by
 have hu55 := Tryd.underlying38
 have HB := Aside0.mk (Below.refl w.heap.size w)
 go_enter Tryd.func36, Tryd.ntmps36
 go_wp2_with (first | ((with_reducible refine gate_dst (N := 1) rfl ?_); refine zbe (N := 1) (cs := #[.int .i64 c, .int .i64 x, .int .i64 y, .int .i64 z]) (t := 38) ?_; intro gb1 hg w1 hbox hb; have BK1 := Aside0.mk hbox; have GW1 := Aside0.mk (zge (zb0 HB) hg); replace HB := Aside0.mk (below_step (zb0 HB) hb); clear hb hbox hg) | ((with_reducible refine gate_dst (N := 2) rfl ?_); refine zbe (N := 2) (cs := #[.int .i64 0, .int .i64 0, .int .i64 0]) (t := 53) ?_; intro gb2 hg w2 hbox hb; have BK2 := Aside0.mk hbox; have GW2 := Aside0.mk (zge (zb0 HB) hg); replace BK1 := Aside0.mk (zbb BK1 hb); replace HB := Aside0.mk (below_step (zb0 HB) hb); clear hb hbox hg; have hc1 : w2.cell? ⟨gb1, 1, none⟩ = some (.int .i64 x) := zc BK1 1; have hc2 : w2.cell? ⟨gb1, 2, none⟩ = some (.int .i64 y) := zc BK1 2; have hc3 : w2.cell? ⟨gb1, 3, none⟩ = some (.int .i64 z) := zc BK1 3; have hd0 : w2.cell? ⟨gb2, 0, none⟩ = some (.int .i64 0) := zc BK2 0; have hd1 : w2.cell? ⟨gb2, 1, none⟩ = some (.int .i64 0) := zc BK2 1; have hd2 : w2.cell? ⟨gb2, 2, none⟩ = some (.int .i64 0) := zc BK2 2; have hf0 := blk_frozen BK2.out 0; have hf1 := blk_frozen BK2.out 1; have hf2 := blk_frozen BK2.out 2))
 refine bodyPost_ret (results_cell_row rfl _ _ gb2 53 #[.int .i64 x, .int .i64 y, .int .i64 z] (0, 0) _ rfl (by (with_reducible repeat (first | refine blk_drewN ?_ _ | refine blk_drew ?_ | refine blk_alloc ?_ _)); refine blk_put (cs := #[.int .i64 x, .int .i64 y, .int .i64 0]) ?_ 2 _ rfl; refine blk_put (cs := #[.int .i64 x, .int .i64 0, .int .i64 0]) ?_ 1 _ rfl; refine blk_put (cs := #[.int .i64 0, .int .i64 0, .int .i64 0]) ?_ 0 _ rfl; exact BK2.out) Tryd.underlying53 rfl (by kernel_rfl)) rfl ?_
 exact ⟨by first | rfl | (simp; done) | (simp [*]; done), (zb1 HB)⟩
theorem impl_termText.ix0 (x y z : Int) (w : World) : (Instr.index 53 (.agg #[.int .i64 x, .int .i64 y, .int .i64 z]) (.int .i64 0)).run Tryd.prog w = .ok (.int .i64 x) w := by
 have hA := Tryd.underlying53
 simp only [Instr.index]
 go_simp
theorem impl_termText.ix1 (x y z : Int) (w : World) : (Instr.index 53 (.agg #[.int .i64 x, .int .i64 y, .int .i64 z]) (.int .i64 1)).run Tryd.prog w = .ok (.int .i64 y) w := by
 have hA := Tryd.underlying53
 simp only [Instr.index]
 go_simp
theorem impl_termText.ix2 (x y z : Int) (w : World) : (Instr.index 53 (.agg #[.int .i64 x, .int .i64 y, .int .i64 z]) (.int .i64 2)).run Tryd.prog w = .ok (.int .i64 z) w := by
 have hA := Tryd.underlying53
 simp only [Instr.index]
 go_simp
theorem impl_termText.joined (base : Nat) (xs : List ByteArray) (v : Value) (w : World) (ok : Nat → Prop) (ho : Kd.R Kd.string 9 w base ok v xs) (hs : xs.length ≤ 3) (hl : (Lib.join (xs.map (·.data.toList)) [42]).length ≤ 140737488355328) (a : ByteArray) (ha : impl_termText.jn xs = a) :
  Calls Tryd.prog 38 #[v, .string (⟨#[42]⟩ : ByteArray)] w fun e w' => e = .returned (.string a) ∧ Below w.heap.size w w' := by
 subst ha
 have h := Kd.own_of_R ho
 rcases Nat.eq_zero_or_pos xs.length with h0 | h0
 ·
  obtain rfl := List.eq_nil_of_length_eq_zero h0
  obtain ⟨A, cc, rfl⟩ := Kd.R_slice ho
  refine (Tryd.strings_Join_none A cc (⟨#[42]⟩ : ByteArray) w).mono ?_
  rintro e w' ⟨rfl, rfl⟩
  exact ⟨rfl, Below.refl _ _⟩
 ·
  obtain ⟨g, cap, rfl, hc1, hc2⟩ := h.form h0
  have hcl := h.cells (g := g) rfl
  obtain ⟨_, hcap, _⟩ := Kd.R_reads' ho
  refine Tryd.strings_Join g 0 cap xs (⟨#[42]⟩ : ByteArray) w (fun j x hj => ?_) ?_ (by omega) hcap hl
  ·
   have := hcl j (.string x) (by rw [encs, List.getElem?_map, hj]; rfl)
   have e : (⟨g, 0 + j, none⟩ : Addr) = (⟨g, 0, none⟩ : Addr).add j := by unfold Addr.add; split <;> simp_all
   rw [e]; exact this
  ·
   have := hcl 0 (.string (xs[0]'h0)) (by rw [encs, List.getElem?_map, List.getElem?_eq_getElem h0]; rfl)
   exact World.block_lt_of_cell? w _ this
theorem impl_termText.sl0 (w : World) : (Instr.slice 9 (.string (⟨#[120, 121, 122]⟩ : ByteArray)) (some (.int .i64 0)) (some (.int .i64 (wrap64 1))) none).run Tryd.prog w = .ok (.string ((⟨#[120, 121, 122]⟩ : ByteArray).extract 0 1)) w := by
 have hA := Tryd.underlying9
 rw [show wrap64 1 = 1 by unfold wrap64; omega]
 simp only [Instr.slice]
 go_simp
theorem impl_termText.sl1 (w : World) : (Instr.slice 9 (.string (⟨#[120, 121, 122]⟩ : ByteArray)) (some (.int .i64 1)) (some (.int .i64 (wrap64 2))) none).run Tryd.prog w = .ok (.string ((⟨#[120, 121, 122]⟩ : ByteArray).extract 1 2)) w := by
 have hA := Tryd.underlying9
 rw [show wrap64 2 = 2 by unfold wrap64; omega]
 simp only [Instr.slice]
 go_simp
theorem impl_termText.sl2 (w : World) : (Instr.slice 9 (.string (⟨#[120, 121, 122]⟩ : ByteArray)) (some (.int .i64 2)) (some (.int .i64 (wrap64 3))) none).run Tryd.prog w = .ok (.string ((⟨#[120, 121, 122]⟩ : ByteArray).extract 2 3)) w := by
 have hA := Tryd.underlying9
 rw [show wrap64 3 = 3 by unfold wrap64; omega]
 simp only [Instr.slice]
 go_simp
set_option maxHeartbeats 8000000 in
set_option maxRecDepth 100000 in
theorem impl_termText.calls (c x y z : Int) (r : ByteArray) (w : World) (ht : Tab w) (h : impl_termText.f c x y z = some r) :
  Calls Tryd.prog 27 #[.agg #[.int .i64 c, .int .i64 x, .int .i64 y, .int .i64 z]] w fun e w' => e = .returned (.string r) ∧ Below w.heap.size w w' := by
 have hu55 := Tryd.underlying38
 have HTAB := Aside0.mk ht
 have HB := Aside0.mk (Below.refl w.heap.size w)
 unfold impl_termText.f at h
 obtain ⟨p0, a0, h⟩ := Option.bind_eq_some_iff.mp h
 have P0 := Aside0.mk a0
 clear a0
 obtain ⟨p1, a1, h⟩ := Option.bind_eq_some_iff.mp h
 have P1 := Aside0.mk a1
 clear a1
 obtain ⟨p2, a2, h⟩ := Option.bind_eq_some_iff.mp h
 have P2 := Aside0.mk a2
 clear a2
 have cl : (Lib.join ((p0 ++ p1 ++ p2).map (·.data.toList)) [42]).length ≤ 140737488355328 := by
  by_cases cl : (Lib.join ((p0 ++ p1 ++ p2).map (·.data.toList)) [42]).length ≤ 140737488355328
  ·
   exact cl
  ·
   rw [if_neg cl] at h; cases h
 rw [if_pos cl] at h
 have CL := Aside0.mk cl
 have H' := Aside0.mk h
 clear cl h ht
 obtain ⟨kk, hkk⟩ : ∃ kk : Nat, kk = 4 := ⟨_, rfl⟩
 have HK := Aside0.mk hkk
 clear hkk
 have hi0 := impl_termText.ix0
 have hi1 := impl_termText.ix1
 have hi2 := impl_termText.ix2
 have hs0 := impl_termText.sl0
 have hs1 := impl_termText.sl1
 have hs2 := impl_termText.sl2
 go_enter Tryd.func27, Tryd.ntmps27
 go_wp2_with (first | ((with_reducible refine gate_dst (N := 1) rfl ?_); refine zbe (N := 1) (cs := #[.int .i64 c, .int .i64 x, .int .i64 y, .int .i64 z]) (t := 38) ?_; intro gb hg w2 hbox hb; have BK := Aside0.mk hbox; replace HB := Aside0.mk (below_step (zb0 HB) hb); clear hb hbox hg; have hb0 : w2.cell? ⟨gb, 0, none⟩ = some (.int .i64 c) := zc BK 0; have hb1 : w2.cell? ⟨gb, 1, none⟩ = some (.int .i64 x) := zc BK 1; have hb2 : w2.cell? ⟨gb, 2, none⟩ = some (.int .i64 y) := zc BK 2; have hb3 : w2.cell? ⟨gb, 3, none⟩ = some (.int .i64 z) := zc BK 3; have hf0 := blk_frozen BK.out 0; have hf1 := blk_frozen BK.out 1; have hf2 := blk_frozen BK.out 2; have hf3 := blk_frozen BK.out 3) | ((with_reducible refine gate_callee (f := 36) rfl ?_); refine goesL_ (some 8) rfl rfl Tryd.func36 (by kernel_rfl) rfl #[.agg #[.int .i64 c, .int .i64 x, .int .i64 y, .int .i64 z]] rfl zq6 ?_; refine (impl_termText.exps c x y z _).mono ?_; rintro e w9 ⟨rfl, hb⟩; refine ⟨_, rfl, ?_⟩; replace BK := Aside0.mk (zbb BK hb); replace HB := Aside0.mk (below_step (zb1 HB) hb); clear hb))
 clear hb0 hb1 hb2 hb3 hf0 hf1 hf2 hf3
 go_loopg [3, 9] kk (fun kq v3 v9 w' => ∃ (xs : List ByteArray) (i : Int), v9 = .int .i64 i ∧ Aside0 ((i = 0 ∧ xs = [] ∧ kq = 4) ∨ (i = 1 ∧ xs = p0 ∧ kq = 3) ∨ (i = 2 ∧ xs = p0 ++ p1 ∧ kq = 2) ∨ (i = 3 ∧ xs = p0 ++ p1 ++ p2 ∧ kq = 1)) ∧ Aside0 (Kd.R Kd.string 9 w' w.heap.size (fun k => k ≠ gb) v3 xs) ∧ Aside0 (w'.heap[gb]? = some (.cells #[.int .i64 c, .int .i64 x, .int .i64 y, .int .i64 z] 38 (0, 0))) ∧ Aside0 (Below w.heap.size w w'))
 case atStart => exact ⟨[], 0, (by first | rfl | (simp; done) | (simp [*]; done)), ⟨Or.inl ⟨rfl, rfl, HK.out⟩⟩, ⟨Kd.R_nil _ _ _ _ _⟩, ⟨zq1 BK⟩, ⟨(zb1 HB)⟩⟩
 case round =>
  clear HB BK
  obtain ⟨xs, i, rfl, HI, HO, BK, HB⟩ := hrel
  cases gk with
  | zero => have := HI.out; omega
  | succ k1 =>
   rcases HI.out with ⟨rfl, hx, hk⟩ | ⟨rfl, hx, hk⟩ | ⟨rfl, hx, hk⟩ | ⟨rfl, hx, hk⟩
   ·
    have LM : Aside0 ((xs.length + 1) * 16 ≤ 140737488355328) := ⟨by have g0 := impl_termText.pt_len P0.out; have g1 := impl_termText.pt_len P1.out; have := congrArg List.length hx; (try simp only [List.length_append, List.length_nil] at this); omega⟩
    have hp := P0.out
    unfold impl_termText.pt at hp
    by_cases c1 : x = 1
    ·
     rw [if_pos c1] at hp
     have e_ := Option.some.inj hp
     have c1b : (x == 1) = true := beq_iff_eq.mpr c1
     clear c1 hp
     go_wp2_with (first | ((with_reducible refine gate_builtin (b := .append) (xs := #[.tmp 16, .tmp 21]) rfl ?_); at_builtin; refine Kd.R_append Kd.string (w0 := w) w.heap.size rfl (.tmp 16) (.tmp 21) 55 9 (.string ⟨#[]⟩) 16 rfl Tryd.underlying55 impl_termText.info rfl (by decide) (by omega) u3 xs ((⟨#[120, 121, 122]⟩ : ByteArray).extract 0 1) [.string ((⟨#[120, 121, 122]⟩ : ByteArray).extract 0 1)] (fun k => k ≠ gb) (fun _ => False) rfl (by first | (go_simp; done) | (go_simp; rfl)) ?aP (fun _ hk => hk.elim) ?aF ?aO ?aB ?aS ?aL ?_; (case aP => exact rfl); (case aB => exact (zb1 HB)); (case aF => exact (fun k hk he => absurd (impl_termText.lt BK.out) (by omega))); (case aO => exact (zq3 HO)); (case aS => exact (below_size (zb1 HB))); (case aL => have := LM.out; omega); intro v43 wy ho hb hg hat; replace HB := Aside0.mk hb; have HO' := Aside0.mk ho; replace BK := Aside0.mk (impl_termText.grown BK.out hb (fun he => HO.out.1 gb he rfl) hg); clear ho hb hg hat))
     go_roundg k1
     case measure => omega
     case rel => exact ⟨xs ++ [((⟨#[120, 121, 122]⟩ : ByteArray).extract 0 1)], 1, (by first | rfl | (simp; done) | (simp [wrap64]; done) | (simp [*]; done)), ⟨Or.inr (Or.inl ⟨rfl, by first | (rw [hx, ← e_]; done) | (rw [hx, ← e_]; rfl), by omega⟩)⟩, ⟨zq3 HO'⟩, ⟨zq1 BK⟩, ⟨(zb1 HB)⟩⟩
    ·
     rw [if_neg c1] at hp
     have c1b : (x == 1) = false := beq_eq_false_iff_ne.mpr c1
     by_cases c2 : x > 1
     ·
      rw [if_pos c2] at hp
      obtain ⟨s, hI0, hp⟩ := Option.bind_eq_some_iff.mp hp
      have hI := Aside0.mk hI0
      have c2b : decide (1 < x) = true := decide_eq_true c2
      have c2c : decide (x > 1) = true := decide_eq_true c2
      have c3 : (((⟨#[120, 121, 122]⟩ : ByteArray).extract 0 1) ++ (⟨#[94]⟩ : ByteArray)).size + s.size ≤ 9223372036854775807 := by
       by_cases c3 : (((⟨#[120, 121, 122]⟩ : ByteArray).extract 0 1) ++ (⟨#[94]⟩ : ByteArray)).size + s.size ≤ 9223372036854775807
       ·
        exact c3
       ·
        rw [if_neg c3] at hp; cases hp
      rw [if_pos c3] at hp
      have e_ := Option.some.inj hp
      have c3b : (9223372036854775807 < (((⟨#[120, 121, 122]⟩ : ByteArray).extract 0 1) ++ (⟨#[94]⟩ : ByteArray)).size + s.size) = False := eq_false (Nat.not_lt.2 c3)
      have c3c : (9223372036854775807 < 2 + s.size) = False := eq_false (Nat.not_lt.2 c3)
      clear c1 c2 hI0 hp c3
      go_wp2
      replace HO := Aside0.mk (Kd.R_below HO.out (below_drew1 (Below.refl wr.heap.size wr)))
      replace HB := Aside0.mk (below_drew1 HB.out)
      replace BK := Aside0.mk (blk_drew BK.out)
      refine start_ (n := 12) (S := fun w' => True) (ds := []) #[false, false, false, false, false, false, false, false, false, false, false, false] (by kernel_rfl) rfl rfl trivial (fun hHeld => ?_)
      generalize wr.drew = w3 at HB BK HO hHeld ⊢
      refine zp (i := 0) (N := some 26) #[true, false, false, false, false, false, false, false, false, false, false, false] (by kernel_rfl) ?_
      refine zp (i := 1) (N := some 27) #[true, true, false, false, false, false, false, false, false, false, false, false] (by kernel_rfl) ?_
      refine zp (i := 2) (N := some 28) #[true, true, true, false, false, false, false, false, false, false, false, false] (by kernel_rfl) ?_
      refine zp (i := 3) (N := some 29) #[true, true, true, true, false, false, false, false, false, false, false, false] (by kernel_rfl) ?_
      refine zp (i := 4) (N := some 30) #[true, true, true, true, true, false, false, false, false, false, false, false] (by kernel_rfl) ?_
      refine zp (i := 5) (N := some 31) #[true, true, true, true, true, true, false, false, false, false, false, false] (by kernel_rfl) ?_
      refine zp (i := 6) (N := some 32) #[true, true, true, true, true, true, true, false, false, false, false, false] (by kernel_rfl) ?_
      refine one_ (i := 7) (N := (some 33)) #[true, true, true, true, true, true, true, true, false, false, false, false] rfl rfl (by kernel_rfl) (by decide) (fun K hK => ?_)
      refine goes_ Tryd.func37 (by kernel_rfl) rfl #[.int .i64 x] (by rfl) rfl rfl zq6 ?_
      refine (strconv_Itoa_37.calls x s _ (ztab HTAB (zb1 HB)) hI.out).mono ?_
      rintro e wn ⟨rfl, hb⟩
      refine ⟨_, rfl, ?_⟩
      replace HO := Aside0.mk (Kd.R_below HO.out hb); replace BK := Aside0.mk (zbb BK hb); replace HB := Aside0.mk (below_step (zb1 HB) hb)
      clear hb
      refine hK.out _ _ trivial (fun hHeld => ?_)
      clear hK K
      refine norm_ (a' := ?_) ?_ ?_
      rotate_left
      ·
       show Act.put _ (some 33) _ = _
       simp only [Act.put, List.setIfInBounds_toArray, List.set_cons_zero, List.set_cons_succ, i64_w, i32_w]; rfl
      refine zp (i := 8) (N := some 34) #[true, true, true, true, true, true, true, true, true, false, false, false] (by kernel_rfl) ?_
      refine one_ (i := 9) (N := (some 35)) #[true, true, true, true, true, true, true, true, true, true, false, false] rfl rfl (by kernel_rfl) (by decide) (fun K hK => ?_)
      refine value_ (w1 := ?_) (v := ?_) (by rfl) rfl ?_ ?_
      rotate_left 2
      ·
       go_simp
       constructor
       ·
        rfl
       ·
        rfl
      refine hK.out _ _ trivial (fun hHeld => ?_)
      clear hK K
      refine norm_ (a' := ?_) ?_ ?_
      rotate_left
      ·
       show Act.put _ (some 35) _ = _
       simp only [Act.put, List.setIfInBounds_toArray, List.set_cons_zero, List.set_cons_succ, i64_w, i32_w]; rfl
      refine one_ (i := 10) (N := (some 36)) #[true, true, true, true, true, true, true, true, true, true, true, false] rfl rfl (by kernel_rfl) (by decide) (fun K hK => ?_)
      refine Kd.R_append_step Kd.string (w0 := w) w.heap.size (by rfl) (.tmp 26) (.tmp 35) 55 9 (.string ⟨#[]⟩) 16 rfl Tryd.underlying55 impl_termText.info rfl (by decide) (by omega) u3 xs (((⟨#[120, 121, 122]⟩ : ByteArray).extract 0 1) ++ (⟨#[94]⟩ : ByteArray) ++ s) [.string (((⟨#[120, 121, 122]⟩ : ByteArray).extract 0 1) ++ (⟨#[94]⟩ : ByteArray) ++ s)] (fun k => k ≠ gb) (fun _ => False) rfl (by first | rfl | (go_simp; done) | (go_simp; rfl)) ?aP (fun _ hk => hk.elim) ?aF ?aO ?aB ?aS ?aL ?_
      case aP => exact rfl
      case aB => exact (zb1 HB)
      case aF => exact (fun k hk he => absurd (impl_termText.lt BK.out) (by omega))
      case aO => exact HO.out
      case aS => exact (below_size (zb1 HB))
      case aL => exact LM.out
      intro v43 wy ho hb hg hat
      replace BK := Aside0.mk (impl_termText.grown BK.out hb (fun he => HO.out.1 gb he rfl) hg)
      replace HB := Aside0.mk hb
      have HO' := Aside0.mk ho
      clear ho hb hg hat HO
      refine hK.out _ _ trivial (fun hHeld => ?_)
      clear hK K
      refine norm_ (a' := ?_) ?_ ?_
      rotate_left
      ·
       show Act.put _ (some 36) _ = _
       simp only [Act.put, List.setIfInBounds_toArray, List.set_cons_zero, List.set_cons_succ, i64_w, i32_w]; rfl
      refine zp (i := 11) (N := some 3) #[true, true, true, true, true, true, true, true, true, true, true, true] (by kernel_rfl) ?_
      refine done_ (by kernel_rfl) ?_
      go_wp2
      go_roundg k1
      case measure => omega
      case rel => exact ⟨xs ++ [((⟨#[120, 121, 122]⟩ : ByteArray).extract 0 1) ++ (⟨#[94]⟩ : ByteArray) ++ s], 1, (by first | rfl | (simp; done) | (simp [wrap64]; done) | (simp [*]; done)), ⟨Or.inr (Or.inl ⟨rfl, by first | (rw [hx, ← e_]; done) | (rw [hx, ← e_]; rfl), by omega⟩)⟩, ⟨zq3 HO'⟩, ⟨zq1 BK⟩, ⟨(zb1 HB)⟩⟩
     ·
      rw [if_neg c2] at hp
      have e_ := Option.some.inj hp
      have c2b : decide (1 < x) = false := decide_eq_false c2
      have c2c : decide (x > 1) = false := decide_eq_false c2
      clear c1 c2 hp
      go_wp2
      go_roundg k1
      case measure => omega
      case rel => exact ⟨xs, 1, (by first | rfl | (simp; done) | (simp [wrap64]; done) | (simp [*]; done)), ⟨Or.inr (Or.inl ⟨rfl, by first | (rw [hx, ← e_]; done) | (rw [hx, ← e_]; rfl) | (rw [hx, ← e_]; simp), by omega⟩)⟩, ⟨zq3 HO⟩, ⟨zq1 BK⟩, ⟨(zb1 HB)⟩⟩
   ·
    have LM : Aside0 ((xs.length + 1) * 16 ≤ 140737488355328) := ⟨by have g0 := impl_termText.pt_len P0.out; have g1 := impl_termText.pt_len P1.out; have := congrArg List.length hx; (try simp only [List.length_append, List.length_nil] at this); omega⟩
    have hp := P1.out
    unfold impl_termText.pt at hp
    by_cases c1 : y = 1
    ·
     rw [if_pos c1] at hp
     have e_ := Option.some.inj hp
     have c1b : (y == 1) = true := beq_iff_eq.mpr c1
     clear c1 hp
     go_wp2_with (first | ((with_reducible refine gate_builtin (b := .append) (xs := #[.tmp 16, .tmp 21]) rfl ?_); at_builtin; refine Kd.R_append Kd.string (w0 := w) w.heap.size rfl (.tmp 16) (.tmp 21) 55 9 (.string ⟨#[]⟩) 16 rfl Tryd.underlying55 impl_termText.info rfl (by decide) (by omega) u3 xs ((⟨#[120, 121, 122]⟩ : ByteArray).extract 1 2) [.string ((⟨#[120, 121, 122]⟩ : ByteArray).extract 1 2)] (fun k => k ≠ gb) (fun _ => False) rfl (by first | (go_simp; done) | (go_simp; rfl)) ?aP (fun _ hk => hk.elim) ?aF ?aO ?aB ?aS ?aL ?_; (case aP => exact rfl); (case aB => exact (zb1 HB)); (case aF => exact (fun k hk he => absurd (impl_termText.lt BK.out) (by omega))); (case aO => exact (zq3 HO)); (case aS => exact (below_size (zb1 HB))); (case aL => have := LM.out; omega); intro v43 wy ho hb hg hat; replace HB := Aside0.mk hb; have HO' := Aside0.mk ho; replace BK := Aside0.mk (impl_termText.grown BK.out hb (fun he => HO.out.1 gb he rfl) hg); clear ho hb hg hat))
     go_roundg k1
     case measure => omega
     case rel => exact ⟨xs ++ [((⟨#[120, 121, 122]⟩ : ByteArray).extract 1 2)], 2, (by first | rfl | (simp; done) | (simp [wrap64]; done) | (simp [*]; done)), ⟨Or.inr (Or.inr (Or.inl ⟨rfl, by first | (rw [hx, ← e_]; done) | (rw [hx, ← e_]; rfl), by omega⟩))⟩, ⟨zq3 HO'⟩, ⟨zq1 BK⟩, ⟨(zb1 HB)⟩⟩
    ·
     rw [if_neg c1] at hp
     have c1b : (y == 1) = false := beq_eq_false_iff_ne.mpr c1
     by_cases c2 : y > 1
     ·
      rw [if_pos c2] at hp
      obtain ⟨s, hI0, hp⟩ := Option.bind_eq_some_iff.mp hp
      have hI := Aside0.mk hI0
      have c2b : decide (1 < y) = true := decide_eq_true c2
      have c2c : decide (y > 1) = true := decide_eq_true c2
      have c3 : (((⟨#[120, 121, 122]⟩ : ByteArray).extract 1 2) ++ (⟨#[94]⟩ : ByteArray)).size + s.size ≤ 9223372036854775807 := by
       by_cases c3 : (((⟨#[120, 121, 122]⟩ : ByteArray).extract 1 2) ++ (⟨#[94]⟩ : ByteArray)).size + s.size ≤ 9223372036854775807
       ·
        exact c3
       ·
        rw [if_neg c3] at hp; cases hp
      rw [if_pos c3] at hp
      have e_ := Option.some.inj hp
      have c3b : (9223372036854775807 < (((⟨#[120, 121, 122]⟩ : ByteArray).extract 1 2) ++ (⟨#[94]⟩ : ByteArray)).size + s.size) = False := eq_false (Nat.not_lt.2 c3)
      have c3c : (9223372036854775807 < 2 + s.size) = False := eq_false (Nat.not_lt.2 c3)
      clear c1 c2 hI0 hp c3
      go_wp2
      replace HO := Aside0.mk (Kd.R_below HO.out (below_drew1 (Below.refl wr.heap.size wr)))
      replace HB := Aside0.mk (below_drew1 HB.out)
      replace BK := Aside0.mk (blk_drew BK.out)
      refine start_ (n := 12) (S := fun w' => True) (ds := []) #[false, false, false, false, false, false, false, false, false, false, false, false] (by kernel_rfl) rfl rfl trivial (fun hHeld => ?_)
      generalize wr.drew = w3 at HB BK HO hHeld ⊢
      refine zp (i := 0) (N := some 26) #[true, false, false, false, false, false, false, false, false, false, false, false] (by kernel_rfl) ?_
      refine zp (i := 1) (N := some 27) #[true, true, false, false, false, false, false, false, false, false, false, false] (by kernel_rfl) ?_
      refine zp (i := 2) (N := some 28) #[true, true, true, false, false, false, false, false, false, false, false, false] (by kernel_rfl) ?_
      refine zp (i := 3) (N := some 29) #[true, true, true, true, false, false, false, false, false, false, false, false] (by kernel_rfl) ?_
      refine zp (i := 4) (N := some 30) #[true, true, true, true, true, false, false, false, false, false, false, false] (by kernel_rfl) ?_
      refine zp (i := 5) (N := some 31) #[true, true, true, true, true, true, false, false, false, false, false, false] (by kernel_rfl) ?_
      refine zp (i := 6) (N := some 32) #[true, true, true, true, true, true, true, false, false, false, false, false] (by kernel_rfl) ?_
      refine one_ (i := 7) (N := (some 33)) #[true, true, true, true, true, true, true, true, false, false, false, false] rfl rfl (by kernel_rfl) (by decide) (fun K hK => ?_)
      refine goes_ Tryd.func37 (by kernel_rfl) rfl #[.int .i64 y] (by rfl) rfl rfl zq6 ?_
      refine (strconv_Itoa_37.calls y s _ (ztab HTAB (zb1 HB)) hI.out).mono ?_
      rintro e wn ⟨rfl, hb⟩
      refine ⟨_, rfl, ?_⟩
      replace HO := Aside0.mk (Kd.R_below HO.out hb); replace BK := Aside0.mk (zbb BK hb); replace HB := Aside0.mk (below_step (zb1 HB) hb)
      clear hb
      refine hK.out _ _ trivial (fun hHeld => ?_)
      clear hK K
      refine norm_ (a' := ?_) ?_ ?_
      rotate_left
      ·
       show Act.put _ (some 33) _ = _
       simp only [Act.put, List.setIfInBounds_toArray, List.set_cons_zero, List.set_cons_succ, i64_w, i32_w]; rfl
      refine zp (i := 8) (N := some 34) #[true, true, true, true, true, true, true, true, true, false, false, false] (by kernel_rfl) ?_
      refine one_ (i := 9) (N := (some 35)) #[true, true, true, true, true, true, true, true, true, true, false, false] rfl rfl (by kernel_rfl) (by decide) (fun K hK => ?_)
      refine value_ (w1 := ?_) (v := ?_) (by rfl) rfl ?_ ?_
      rotate_left 2
      ·
       go_simp
       constructor
       ·
        rfl
       ·
        rfl
      refine hK.out _ _ trivial (fun hHeld => ?_)
      clear hK K
      refine norm_ (a' := ?_) ?_ ?_
      rotate_left
      ·
       show Act.put _ (some 35) _ = _
       simp only [Act.put, List.setIfInBounds_toArray, List.set_cons_zero, List.set_cons_succ, i64_w, i32_w]; rfl
      refine one_ (i := 10) (N := (some 36)) #[true, true, true, true, true, true, true, true, true, true, true, false] rfl rfl (by kernel_rfl) (by decide) (fun K hK => ?_)
      refine Kd.R_append_step Kd.string (w0 := w) w.heap.size (by rfl) (.tmp 26) (.tmp 35) 55 9 (.string ⟨#[]⟩) 16 rfl Tryd.underlying55 impl_termText.info rfl (by decide) (by omega) u3 xs (((⟨#[120, 121, 122]⟩ : ByteArray).extract 1 2) ++ (⟨#[94]⟩ : ByteArray) ++ s) [.string (((⟨#[120, 121, 122]⟩ : ByteArray).extract 1 2) ++ (⟨#[94]⟩ : ByteArray) ++ s)] (fun k => k ≠ gb) (fun _ => False) rfl (by first | rfl | (go_simp; done) | (go_simp; rfl)) ?aP (fun _ hk => hk.elim) ?aF ?aO ?aB ?aS ?aL ?_
      case aP => exact rfl
      case aB => exact (zb1 HB)
      case aF => exact (fun k hk he => absurd (impl_termText.lt BK.out) (by omega))
      case aO => exact HO.out
      case aS => exact (below_size (zb1 HB))
      case aL => exact LM.out
      intro v43 wy ho hb hg hat
      replace BK := Aside0.mk (impl_termText.grown BK.out hb (fun he => HO.out.1 gb he rfl) hg)
      replace HB := Aside0.mk hb
      have HO' := Aside0.mk ho
      clear ho hb hg hat HO
      refine hK.out _ _ trivial (fun hHeld => ?_)
      clear hK K
      refine norm_ (a' := ?_) ?_ ?_
      rotate_left
      ·
       show Act.put _ (some 36) _ = _
       simp only [Act.put, List.setIfInBounds_toArray, List.set_cons_zero, List.set_cons_succ, i64_w, i32_w]; rfl
      refine zp (i := 11) (N := some 3) #[true, true, true, true, true, true, true, true, true, true, true, true] (by kernel_rfl) ?_
      refine done_ (by kernel_rfl) ?_
      go_wp2
      go_roundg k1
      case measure => omega
      case rel => exact ⟨xs ++ [((⟨#[120, 121, 122]⟩ : ByteArray).extract 1 2) ++ (⟨#[94]⟩ : ByteArray) ++ s], 2, (by first | rfl | (simp; done) | (simp [wrap64]; done) | (simp [*]; done)), ⟨Or.inr (Or.inr (Or.inl ⟨rfl, by first | (rw [hx, ← e_]; done) | (rw [hx, ← e_]; rfl), by omega⟩))⟩, ⟨zq3 HO'⟩, ⟨zq1 BK⟩, ⟨(zb1 HB)⟩⟩
     ·
      rw [if_neg c2] at hp
      have e_ := Option.some.inj hp
      have c2b : decide (1 < y) = false := decide_eq_false c2
      have c2c : decide (y > 1) = false := decide_eq_false c2
      clear c1 c2 hp
      go_wp2
      go_roundg k1
      case measure => omega
      case rel => exact ⟨xs, 2, (by first | rfl | (simp; done) | (simp [wrap64]; done) | (simp [*]; done)), ⟨Or.inr (Or.inr (Or.inl ⟨rfl, by first | (rw [hx, ← e_]; done) | (rw [hx, ← e_]; rfl) | (rw [hx, ← e_]; simp), by omega⟩))⟩, ⟨zq3 HO⟩, ⟨zq1 BK⟩, ⟨(zb1 HB)⟩⟩
   ·
    have LM : Aside0 ((xs.length + 1) * 16 ≤ 140737488355328) := ⟨by have g0 := impl_termText.pt_len P0.out; have g1 := impl_termText.pt_len P1.out; have := congrArg List.length hx; (try simp only [List.length_append, List.length_nil] at this); omega⟩
    have hp := P2.out
    unfold impl_termText.pt at hp
    by_cases c1 : z = 1
    ·
     rw [if_pos c1] at hp
     have e_ := Option.some.inj hp
     have c1b : (z == 1) = true := beq_iff_eq.mpr c1
     clear c1 hp
     go_wp2_with (first | ((with_reducible refine gate_builtin (b := .append) (xs := #[.tmp 16, .tmp 21]) rfl ?_); at_builtin; refine Kd.R_append Kd.string (w0 := w) w.heap.size rfl (.tmp 16) (.tmp 21) 55 9 (.string ⟨#[]⟩) 16 rfl Tryd.underlying55 impl_termText.info rfl (by decide) (by omega) u3 xs ((⟨#[120, 121, 122]⟩ : ByteArray).extract 2 3) [.string ((⟨#[120, 121, 122]⟩ : ByteArray).extract 2 3)] (fun k => k ≠ gb) (fun _ => False) rfl (by first | (go_simp; done) | (go_simp; rfl)) ?aP (fun _ hk => hk.elim) ?aF ?aO ?aB ?aS ?aL ?_; (case aP => exact rfl); (case aB => exact (zb1 HB)); (case aF => exact (fun k hk he => absurd (impl_termText.lt BK.out) (by omega))); (case aO => exact (zq3 HO)); (case aS => exact (below_size (zb1 HB))); (case aL => have := LM.out; omega); intro v43 wy ho hb hg hat; replace HB := Aside0.mk hb; have HO' := Aside0.mk ho; replace BK := Aside0.mk (impl_termText.grown BK.out hb (fun he => HO.out.1 gb he rfl) hg); clear ho hb hg hat))
     go_roundg k1
     case measure => omega
     case rel => exact ⟨xs ++ [((⟨#[120, 121, 122]⟩ : ByteArray).extract 2 3)], 3, (by first | rfl | (simp; done) | (simp [wrap64]; done) | (simp [*]; done)), ⟨Or.inr (Or.inr (Or.inr ⟨rfl, by first | (rw [hx, ← e_]; done) | (rw [hx, ← e_]; rfl), by omega⟩))⟩, ⟨zq3 HO'⟩, ⟨zq1 BK⟩, ⟨(zb1 HB)⟩⟩
    ·
     rw [if_neg c1] at hp
     have c1b : (z == 1) = false := beq_eq_false_iff_ne.mpr c1
     by_cases c2 : z > 1
     ·
      rw [if_pos c2] at hp
      obtain ⟨s, hI0, hp⟩ := Option.bind_eq_some_iff.mp hp
      have hI := Aside0.mk hI0
      have c2b : decide (1 < z) = true := decide_eq_true c2
      have c2c : decide (z > 1) = true := decide_eq_true c2
      have c3 : (((⟨#[120, 121, 122]⟩ : ByteArray).extract 2 3) ++ (⟨#[94]⟩ : ByteArray)).size + s.size ≤ 9223372036854775807 := by
       by_cases c3 : (((⟨#[120, 121, 122]⟩ : ByteArray).extract 2 3) ++ (⟨#[94]⟩ : ByteArray)).size + s.size ≤ 9223372036854775807
       ·
        exact c3
       ·
        rw [if_neg c3] at hp; cases hp
      rw [if_pos c3] at hp
      have e_ := Option.some.inj hp
      have c3b : (9223372036854775807 < (((⟨#[120, 121, 122]⟩ : ByteArray).extract 2 3) ++ (⟨#[94]⟩ : ByteArray)).size + s.size) = False := eq_false (Nat.not_lt.2 c3)
      have c3c : (9223372036854775807 < 2 + s.size) = False := eq_false (Nat.not_lt.2 c3)
      clear c1 c2 hI0 hp c3
      go_wp2
      replace HO := Aside0.mk (Kd.R_below HO.out (below_drew1 (Below.refl wr.heap.size wr)))
      replace HB := Aside0.mk (below_drew1 HB.out)
      replace BK := Aside0.mk (blk_drew BK.out)
      refine start_ (n := 12) (S := fun w' => True) (ds := []) #[false, false, false, false, false, false, false, false, false, false, false, false] (by kernel_rfl) rfl rfl trivial (fun hHeld => ?_)
      generalize wr.drew = w3 at HB BK HO hHeld ⊢
      refine zp (i := 0) (N := some 26) #[true, false, false, false, false, false, false, false, false, false, false, false] (by kernel_rfl) ?_
      refine zp (i := 1) (N := some 27) #[true, true, false, false, false, false, false, false, false, false, false, false] (by kernel_rfl) ?_
      refine zp (i := 2) (N := some 28) #[true, true, true, false, false, false, false, false, false, false, false, false] (by kernel_rfl) ?_
      refine zp (i := 3) (N := some 29) #[true, true, true, true, false, false, false, false, false, false, false, false] (by kernel_rfl) ?_
      refine zp (i := 4) (N := some 30) #[true, true, true, true, true, false, false, false, false, false, false, false] (by kernel_rfl) ?_
      refine zp (i := 5) (N := some 31) #[true, true, true, true, true, true, false, false, false, false, false, false] (by kernel_rfl) ?_
      refine zp (i := 6) (N := some 32) #[true, true, true, true, true, true, true, false, false, false, false, false] (by kernel_rfl) ?_
      refine one_ (i := 7) (N := (some 33)) #[true, true, true, true, true, true, true, true, false, false, false, false] rfl rfl (by kernel_rfl) (by decide) (fun K hK => ?_)
      refine goes_ Tryd.func37 (by kernel_rfl) rfl #[.int .i64 z] (by rfl) rfl rfl zq6 ?_
      refine (strconv_Itoa_37.calls z s _ (ztab HTAB (zb1 HB)) hI.out).mono ?_
      rintro e wn ⟨rfl, hb⟩
      refine ⟨_, rfl, ?_⟩
      replace HO := Aside0.mk (Kd.R_below HO.out hb); replace BK := Aside0.mk (zbb BK hb); replace HB := Aside0.mk (below_step (zb1 HB) hb)
      clear hb
      refine hK.out _ _ trivial (fun hHeld => ?_)
      clear hK K
      refine norm_ (a' := ?_) ?_ ?_
      rotate_left
      ·
       show Act.put _ (some 33) _ = _
       simp only [Act.put, List.setIfInBounds_toArray, List.set_cons_zero, List.set_cons_succ, i64_w, i32_w]; rfl
      refine zp (i := 8) (N := some 34) #[true, true, true, true, true, true, true, true, true, false, false, false] (by kernel_rfl) ?_
      refine one_ (i := 9) (N := (some 35)) #[true, true, true, true, true, true, true, true, true, true, false, false] rfl rfl (by kernel_rfl) (by decide) (fun K hK => ?_)
      refine value_ (w1 := ?_) (v := ?_) (by rfl) rfl ?_ ?_
      rotate_left 2
      ·
       go_simp
       constructor
       ·
        rfl
       ·
        rfl
      refine hK.out _ _ trivial (fun hHeld => ?_)
      clear hK K
      refine norm_ (a' := ?_) ?_ ?_
      rotate_left
      ·
       show Act.put _ (some 35) _ = _
       simp only [Act.put, List.setIfInBounds_toArray, List.set_cons_zero, List.set_cons_succ, i64_w, i32_w]; rfl
      refine one_ (i := 10) (N := (some 36)) #[true, true, true, true, true, true, true, true, true, true, true, false] rfl rfl (by kernel_rfl) (by decide) (fun K hK => ?_)
      refine Kd.R_append_step Kd.string (w0 := w) w.heap.size (by rfl) (.tmp 26) (.tmp 35) 55 9 (.string ⟨#[]⟩) 16 rfl Tryd.underlying55 impl_termText.info rfl (by decide) (by omega) u3 xs (((⟨#[120, 121, 122]⟩ : ByteArray).extract 2 3) ++ (⟨#[94]⟩ : ByteArray) ++ s) [.string (((⟨#[120, 121, 122]⟩ : ByteArray).extract 2 3) ++ (⟨#[94]⟩ : ByteArray) ++ s)] (fun k => k ≠ gb) (fun _ => False) rfl (by first | rfl | (go_simp; done) | (go_simp; rfl)) ?aP (fun _ hk => hk.elim) ?aF ?aO ?aB ?aS ?aL ?_
      case aP => exact rfl
      case aB => exact (zb1 HB)
      case aF => exact (fun k hk he => absurd (impl_termText.lt BK.out) (by omega))
      case aO => exact HO.out
      case aS => exact (below_size (zb1 HB))
      case aL => exact LM.out
      intro v43 wy ho hb hg hat
      replace BK := Aside0.mk (impl_termText.grown BK.out hb (fun he => HO.out.1 gb he rfl) hg)
      replace HB := Aside0.mk hb
      have HO' := Aside0.mk ho
      clear ho hb hg hat HO
      refine hK.out _ _ trivial (fun hHeld => ?_)
      clear hK K
      refine norm_ (a' := ?_) ?_ ?_
      rotate_left
      ·
       show Act.put _ (some 36) _ = _
       simp only [Act.put, List.setIfInBounds_toArray, List.set_cons_zero, List.set_cons_succ, i64_w, i32_w]; rfl
      refine zp (i := 11) (N := some 3) #[true, true, true, true, true, true, true, true, true, true, true, true] (by kernel_rfl) ?_
      refine done_ (by kernel_rfl) ?_
      go_wp2
      go_roundg k1
      case measure => omega
      case rel => exact ⟨xs ++ [((⟨#[120, 121, 122]⟩ : ByteArray).extract 2 3) ++ (⟨#[94]⟩ : ByteArray) ++ s], 3, (by first | rfl | (simp; done) | (simp [wrap64]; done) | (simp [*]; done)), ⟨Or.inr (Or.inr (Or.inr ⟨rfl, by first | (rw [hx, ← e_]; done) | (rw [hx, ← e_]; rfl), by omega⟩))⟩, ⟨zq3 HO'⟩, ⟨zq1 BK⟩, ⟨(zb1 HB)⟩⟩
     ·
      rw [if_neg c2] at hp
      have e_ := Option.some.inj hp
      have c2b : decide (1 < z) = false := decide_eq_false c2
      have c2c : decide (z > 1) = false := decide_eq_false c2
      clear c1 c2 hp
      go_wp2
      go_roundg k1
      case measure => omega
      case rel => exact ⟨xs, 3, (by first | rfl | (simp; done) | (simp [wrap64]; done) | (simp [*]; done)), ⟨Or.inr (Or.inr (Or.inr ⟨rfl, by first | (rw [hx, ← e_]; done) | (rw [hx, ← e_]; rfl) | (rw [hx, ← e_]; simp), by omega⟩))⟩, ⟨zq3 HO⟩, ⟨zq1 BK⟩, ⟨(zb1 HB)⟩⟩
   ·
    have LX : Aside0 (xs.length ≤ 3) := ⟨by have g0 := impl_termText.pt_len P0.out; have g1 := impl_termText.pt_len P1.out; have g2 := impl_termText.pt_len P2.out; have := congrArg List.length hx; (try simp only [List.length_append, List.length_nil] at this); omega⟩
    have CX := Aside0.mk CL.out
    rw [← hx] at CX
    obtain ⟨a, ha⟩ : ∃ a, impl_termText.jn xs = a := ⟨_, rfl⟩
    have HX := Aside0.mk ha
    have H := H'.out
    rw [← hx, ha] at H
    unfold impl_termText.tl at H
    clear ha
    by_cases c0 : a.toList = ([] : List UInt8)
    ·
     rw [if_pos c0] at H
     have hI := Aside0.mk H
     have c0b : (a.toList == ([] : List UInt8)) = true := beq_iff_eq.mpr c0
     clear c0 H
     go_wp2_with (first | (go_at_call 38; refine (impl_termText.joined w.heap.size xs u3 _ _ (zq3 HO) LX.out CX.out a HX.out).mono ?_; rintro e w6 ⟨rfl, hb⟩; replace BK := Aside0.mk (zbb BK hb); replace HB := Aside0.mk (below_step (zb1 HB) hb); clear hb; have hd0 : w6.cell? ⟨gb, 0, none⟩ = some (.int .i64 c) := zc BK 0; have hd1 : w6.cell? ⟨gb, 1, none⟩ = some (.int .i64 x) := zc BK 1; have hd2 : w6.cell? ⟨gb, 2, none⟩ = some (.int .i64 y) := zc BK 2; have hd3 : w6.cell? ⟨gb, 3, none⟩ = some (.int .i64 z) := zc BK 3; have hf0 := blk_frozen BK.out 0; have hf1 := blk_frozen BK.out 1; have hf2 := blk_frozen BK.out 2; have hf3 := blk_frozen BK.out 3) | ((with_reducible refine gate_callee (f := 37) rfl ?_); refine goesL_ (some 45) rfl rfl Tryd.func37 (by kernel_rfl) rfl #[.int .i64 c] rfl zq6 ?_; refine (strconv_Itoa_37.calls c r _ (ztab HTAB (zb1 HB)) hI.out).mono ?_; rintro e w7 ⟨rfl, hb⟩; refine ⟨_, rfl, ?_⟩; replace HB := Aside0.mk (below_step (zb1 HB) hb); clear hb))
     go_ret
     exact ⟨by first | rfl | (simp; done) | (simp [*]; done), (zb1 HB)⟩
    ·
     rw [if_neg c0] at H
     have c0b : (a.toList == ([] : List UInt8)) = false := beq_eq_false_iff_ne.mpr c0
     clear c0
     by_cases c1 : c = 1
     ·
      rw [if_pos c1] at H
      obtain rfl := Option.some.inj H
      have c1b : (c == 1) = true := beq_iff_eq.mpr c1
      clear c1 H
      go_wp2_with (first | (go_at_call 38; refine (impl_termText.joined w.heap.size xs u3 _ _ (zq3 HO) LX.out CX.out a HX.out).mono ?_; rintro e w6 ⟨rfl, hb⟩; replace BK := Aside0.mk (zbb BK hb); replace HB := Aside0.mk (below_step (zb1 HB) hb); clear hb; have hd0 : w6.cell? ⟨gb, 0, none⟩ = some (.int .i64 c) := zc BK 0; have hd1 : w6.cell? ⟨gb, 1, none⟩ = some (.int .i64 x) := zc BK 1; have hd2 : w6.cell? ⟨gb, 2, none⟩ = some (.int .i64 y) := zc BK 2; have hd3 : w6.cell? ⟨gb, 3, none⟩ = some (.int .i64 z) := zc BK 3; have hf0 := blk_frozen BK.out 0; have hf1 := blk_frozen BK.out 1; have hf2 := blk_frozen BK.out 2; have hf3 := blk_frozen BK.out 3))
      go_ret
      exact ⟨by first | rfl | (simp; done) | (simp [*]; done), (zb1 HB)⟩
     ·
      rw [if_neg c1] at H
      have c1b : (c == 1) = false := beq_eq_false_iff_ne.mpr c1
      clear c1
      by_cases c2 : c = -1
      ·
       rw [if_pos c2] at H
       have c2b : (c == -1) = true := beq_iff_eq.mpr c2
       clear c2
       by_cases c3 : 1 + a.size ≤ 9223372036854775807
       ·
        rw [if_pos c3] at H
        obtain rfl := Option.some.inj H
        have c3b : (9223372036854775807 < 1 + a.size) = False := eq_false (Nat.not_lt.2 c3)
        clear c3 H
        go_wp2_with (first | (go_at_call 38; refine (impl_termText.joined w.heap.size xs u3 _ _ (zq3 HO) LX.out CX.out a HX.out).mono ?_; rintro e w6 ⟨rfl, hb⟩; replace BK := Aside0.mk (zbb BK hb); replace HB := Aside0.mk (below_step (zb1 HB) hb); clear hb; have hd0 : w6.cell? ⟨gb, 0, none⟩ = some (.int .i64 c) := zc BK 0; have hd1 : w6.cell? ⟨gb, 1, none⟩ = some (.int .i64 x) := zc BK 1; have hd2 : w6.cell? ⟨gb, 2, none⟩ = some (.int .i64 y) := zc BK 2; have hd3 : w6.cell? ⟨gb, 3, none⟩ = some (.int .i64 z) := zc BK 3; have hf0 := blk_frozen BK.out 0; have hf1 := blk_frozen BK.out 1; have hf2 := blk_frozen BK.out 2; have hf3 := blk_frozen BK.out 3))
        go_ret
        exact ⟨by first | rfl | (simp; done) | (simp [*]; done), (zb1 HB)⟩
       ·
        rw [if_neg c3] at H; cases H
      ·
       rw [if_neg c2] at H
       have c2b : (c == -1) = false := beq_eq_false_iff_ne.mpr c2
       clear c2
       obtain ⟨s, hI0, H⟩ := Option.bind_eq_some_iff.mp H
       have hI := Aside0.mk hI0
       clear hI0
       by_cases c3 : s.size + 1 ≤ 9223372036854775807
       ·
        rw [if_pos c3] at H
        by_cases c4 : (s ++ (⟨#[42]⟩ : ByteArray)).size + a.size ≤ 9223372036854775807
        ·
         rw [if_pos c4] at H
         obtain rfl := Option.some.inj H
         have c3b : (9223372036854775807 < s.size + 1) = False := eq_false (Nat.not_lt.2 c3)
         have c4b : (9223372036854775807 < s.size + 1 + a.size) = False := eq_false (Nat.not_lt.2 (by rw [ByteArray.size_append] at c4; exact c4))
         clear c3 c4 H
         go_wp2_with (first | (go_at_call 38; refine (impl_termText.joined w.heap.size xs u3 _ _ (zq3 HO) LX.out CX.out a HX.out).mono ?_; rintro e w6 ⟨rfl, hb⟩; replace BK := Aside0.mk (zbb BK hb); replace HB := Aside0.mk (below_step (zb1 HB) hb); clear hb; have hd0 : w6.cell? ⟨gb, 0, none⟩ = some (.int .i64 c) := zc BK 0; have hd1 : w6.cell? ⟨gb, 1, none⟩ = some (.int .i64 x) := zc BK 1; have hd2 : w6.cell? ⟨gb, 2, none⟩ = some (.int .i64 y) := zc BK 2; have hd3 : w6.cell? ⟨gb, 3, none⟩ = some (.int .i64 z) := zc BK 3; have hf0 := blk_frozen BK.out 0; have hf1 := blk_frozen BK.out 1; have hf2 := blk_frozen BK.out 2; have hf3 := blk_frozen BK.out 3) | ((with_reducible refine gate_callee (f := 37) rfl ?_); refine goesL_ (some 59) rfl rfl Tryd.func37 (by kernel_rfl) rfl #[.int .i64 c] rfl zq6 ?_; refine (strconv_Itoa_37.calls c s _ (ztab HTAB (zb1 HB)) hI.out).mono ?_; rintro e w7 ⟨rfl, hb⟩; refine ⟨_, rfl, ?_⟩; replace HB := Aside0.mk (below_step (zb1 HB) hb); clear hb))
         go_ret
         exact ⟨by first | rfl | (simp; done) | (simp [*]; done), (zb1 HB)⟩
        ·
         rw [if_neg c4] at H; cases H
       ·
        rw [if_neg c3] at H; cases H
end Go.Proofs.YtemjjknnelngcaaDoor.PD
