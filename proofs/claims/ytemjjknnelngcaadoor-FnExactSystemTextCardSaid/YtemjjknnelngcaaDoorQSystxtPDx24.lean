-- By wip/mk/drv.py
import Derived.Test.YtemjjknnelngcaaDoorQSystxtPDx0
import Derived.Test.YtemjjknnelngcaaDoorQSystxtPDx1
import Derived.Test.YtemjjknnelngcaaDoorQSystxtPDx2
import Derived.Test.YtemjjknnelngcaaDoorQSystxtPDx13
import Derived.Test.YtemjjknnelngcaaDoorQSystxtPDx22
import Derived.Test.YtemjjknnelngcaaDoorQSystxtPDx23
namespace Go.Proofs.YtemjjknnelngcaaDoor.PD
open Go.RowKit Go.Proofs.YtemjjknnelngcaaDoorW.PrintWords Go.Proofs.YtemjjknnelngcaaDoorW.PrintLast Go.Proofs.YtemjjknnelngcaaDoorW.PrintMore
attribute [local go_sem] max2_int min2_int max_two min_two max_three min_three max_four min_four
set_option linter.unusedVariables false
set_option linter.unusedSimpArgs false
/-! ### laws_intactTermSS: function 8 -/
-- PROOF
-- over the kinds of laws_toTermSS.calls
theorem laws_eqTermSS.selfS (F : List S38) (hF : F.length ≤ 9223372036854775807) : ∀ K, F.length < K → laws_eqTermS.f K F F = some true := by
  have key : ∀ (d i K : Nat), i + d = F.length → d < K → laws_eqTermS.l0 K F F (i : Int) = some true := by
    intro d
    induction d with
    | zero =>
      intro i K hi hK
      obtain ⟨K, rfl⟩ : ∃ j, K = j + 1 := ⟨K - 1, by omega⟩
      simp only [laws_eqTermS.l0]
      rw [if_neg (by omega)]
    | succ d ih =>
      intro i K hi hK
      obtain ⟨K, rfl⟩ : ∃ j, K = j + 1 := ⟨K - 1, by omega⟩
      simp only [laws_eqTermS.l0]
      have hw : wrap64 ((i : Int) + 1) = ((i + 1 : Nat) : Int) := by unfold wrap64; omega
      have he : ∀ x : S38, laws_eqTerm.f x.f0 x.f1 x.f2 x.f3 x.f0 x.f1 x.f2 x.f3 = some true := fun x => by unfold laws_eqTerm.f; simp
      rw [if_pos (by omega), if_pos (by omega), if_pos (by omega), he]; simp only [Option.bind_some, if_true]
      rw [hw]
      exact ih (i + 1) K (by omega) (by omega)
  intro K hK
  unfold laws_eqTermS.f
  rw [if_pos rfl]
  exact key F.length 0 _ (by omega) hK
theorem laws_eqTermSS.self (G : List (List S38)) (hG : G.length ≤ 9223372036854775807) (hE : ∀ x ∈ G, x.length ≤ 9223372036854775807) : ∃ k, laws_eqTermSS.f k G G = some true := by
  obtain ⟨M, hM⟩ : ∃ M : Nat, ∀ x ∈ G, x.length < M := ⟨9223372036854775808, fun x hx => by have := hE x hx; omega⟩
  have key : ∀ (d i K : Nat), i + d = G.length → d + M < K → laws_eqTermSS.l0 K G G (i : Int) = some true := by
    intro d
    induction d with
    | zero =>
      intro i K hi hK
      obtain ⟨K, rfl⟩ : ∃ j, K = j + 1 := ⟨K - 1, by omega⟩
      simp only [laws_eqTermSS.l0]
      rw [if_neg (by omega)]
    | succ d ih =>
      intro i K hi hK
      obtain ⟨K, rfl⟩ : ∃ j, K = j + 1 := ⟨K - 1, by omega⟩
      simp only [laws_eqTermSS.l0]
      have hw : wrap64 ((i : Int) + 1) = ((i + 1 : Nat) : Int) := by unfold wrap64; omega
      have hm : rd_L4 G (i : Int) ∈ G := by
        unfold rd_L4
        rw [Int.toNat_natCast, List.getD_eq_getElem?_getD, List.getElem?_eq_getElem (by omega)]
        exact List.getElem_mem (by omega)
      rw [if_pos (by omega), if_pos (by omega), if_pos (by omega), laws_eqTermSS.selfS _ (hE _ hm) K (by have := hM _ hm; omega)]; simp only [Option.bind_some, if_true]
      rw [hw]
      exact ih (i + 1) K (by omega) (by omega)
  refine ⟨G.length + M + 1, ?_⟩
  unfold laws_eqTermSS.f
  rw [if_pos rfl]
  exact key G.length 0 _ (by omega) (by omega)
theorem laws_intactTermSS.at_q {w : World} {A : Option Addr} {n : Nat} {xs : List (List S38)} (h : Kd.C (Kd.spq 38 k38 filk38 false) w A n (Kd.fulq filk38 false xs)) (i : Int) (h0 : 0 ≤ i) (h1 : i < (xs.length : Int)) (hn : xs.length ≤ n) : ∃ ad A0 c0, A = some ad ∧ w.cell? (ad.add i.toNat) = some (.slice A0 (rd_L4 xs i).length c0) ∧ (flb filk38 false (rd_L4 xs i)).length ≤ c0 ∧ k38.C w A0 (flb filk38 false (rd_L4 xs i)).length (flb filk38 false (rd_L4 xs i)) := by
  obtain ⟨ad, c, e, _, hK, hc0⟩ := Kd.C_get h (([], false) : List S38 × Bool) i h0 (by omega)
  have hc : ∀ j u, c[j]? = some u → w.cell? (ad.add (i.toNat * 1 + j)) = some u := hc0
  have hlt : i.toNat < xs.length := by omega
  have hg : (Kd.fulq filk38 false xs).getD i.toNat (([], false) : List S38 × Bool) = (rd_L4 xs i, true) := by
    unfold Kd.fulq rd_L4
    rw [List.getD_eq_getElem?_getD, List.getElem?_append_left (by rw [List.length_map]; exact hlt), List.getElem?_map, List.getD_eq_getElem?_getD, List.getElem?_eq_getElem hlt]
    rfl
  rw [hg] at hK
  have hK2 : (Kd.spl 35 k38 filk38 false).K w (rd_L4 xs i) c := hK
  obtain ⟨A0, c0, rfl, l0, g0⟩ := hK2
  exact ⟨ad, A0, c0, e, by have hq := hc 0 _ rfl; rwa [Nat.mul_one, Nat.add_zero] at hq, l0, g0⟩
theorem laws_intactTermSS.cut_midc {P : Program} (t e : TypeId) (kl kh : IntKind) {i : TypeInfo} (ht : P.underlying t = some (.slice e)) (hi : P.info? e = some i) (size : Nat) (hsz : i.size = size) (A : Option Addr) (n c : Nat) (lo hi' : Int) (h0 : 0 ≤ lo) (h1 : lo ≤ hi') (h2 : hi' ≤ c) :
    ∀ W : World, (Instr.slice t (.slice A n c) (some (.int kl lo)) (some (.int kh hi')) none).run P W = .ok (.slice (if c = lo.toNat then A else A.map (·.add (lo.toNat * size))) (hi'.toNat - lo.toNat) (c - lo.toNat)) W := by
  obtain ⟨m, hm⟩ : ∃ m : Nat, (m : Int) = hi' := ⟨hi'.toNat, by omega⟩
  intro W
  have hel : P.elem t = e := by simp [Program.elem, ht]
  have hu : P.underlying t = some (.slice (P.elem t)) := by rw [hel]; exact ht
  rw [run_slice_lh W t A n c hu kl kh lo hi' h0 h1 (by omega), hel]
  simp [sizeOf, typeInfo, hi, hsz, sliced, Result.andThen]
set_option maxHeartbeats 8000000 in
set_option maxRecDepth 100000 in
theorem laws_intactTermSS.calls (A0 : Option Addr) (c0 : Nat) (l0 : List (List S38)) (A1 : Option Addr) (c1 : Nat) (l1 : List (List S38)) (r : Bool) (w : World) (hr0 : Kd.C (Kd.slice 38 k38) w A0 l0.length l0) (hc0 : l0.length ≤ c0) (hr1 : Kd.C (Kd.slice 38 k38) w A1 l1.length l1) (hc1 : l1.length ≤ c1) (h : laws_intactTermSS.f l0 l1 = some r)
  (hF0 : Kd.C (Kd.spq 38 k38 filk38 false) w A0 (Kd.fulq filk38 false l0).length (Kd.fulq filk38 false l0)) (hG0 : (Kd.fulq filk38 false l0).length ≤ c0) (hF1 : Kd.C (Kd.spq 38 k38 filk38 false) w A1 (Kd.fulq filk38 false l1).length (Kd.fulq filk38 false l1)) (hG1 : (Kd.fulq filk38 false l1).length ≤ c1) :
  Calls Tryd.prog 8 #[.slice A0 l0.length c0, .slice A1 l1.length c1] w fun e w' => e = .returned (.bool r) ∧ Below w.heap.size w w' := by
  unfold laws_intactTermSS.f at h
  by_cases hl : l0 = l1
  · rw [if_pos hl] at h
    obtain rfl := Option.some.inj h
    subst hl
    have hsum := Kd.fulq_len filk38 l0
    have hbig := hF0.2.1
    have A3 := Aside0.mk (laws_roomBehind.at_ l0.length)
    have HR0 := Aside0.mk hr0
    have HR1 := Aside0.mk hr1
    have HF0 := Aside0.mk hF0
    have HF1 := Aside0.mk hF1
    have HG0 := Aside0.mk hG0
    have HG1 := Aside0.mk hG1
    have HS := Aside0.mk hsum
    have HBG := Aside0.mk hbig
    have HB := Aside0.mk (Below.refl w.heap.size w)
    have c4b0 : ((l0.length : Int) == (l0.length : Int)) = true := by simp
    have c4b2 : (l0.length == l0.length) = true := by simp
    obtain ⟨ji5, hji5, hj0⟩ : ∃ j_ : Int, wrap64 ((l0.length : Int) + (room l0.length : Int)) = j_ ∧ j_ = ((Kd.fulq filk38 false l0).length : Int) := ⟨_, rfl, by rw [hsum]; unfold wrap64; omega⟩
    have hji5w : (IntKind.i64.wrap ((l0.length : Int) + (room l0.length : Int))) = ji5 := (i64_w _).trans hji5
    have HJ := Aside0.mk hj0
    clear hr0 hc0 hr1 hc1 h hF0 hF1 hG0 hG1 hsum hbig hj0
    go_enter Tryd.func8, Tryd.ntmps8
    go_wp2_with (first | ((with_reducible refine gate_callee (f := 12) rfl ?_); refine goesL_ (some 11) rfl rfl Tryd.func12 (by kernel_rfl) rfl #[.int .i64 (l0.length : Int)] rfl zq6 ?_; (with_reducible refine (laws_roomBehind.calls (l0.length : Int) (room l0.length : Int) _ A3.out).mono ?_); rintro e w' ⟨rfl, ⟨nd, rfl⟩⟩; refine ⟨_, rfl, ?_⟩))
    go_loopg [6] l0.length (fun kq v6 w' => ∃ (i : Int), v6 = .int .i64 i ∧ Aside0 (0 ≤ i ∧ i + (kq : Int) = (l0.length : Int)) ∧ Aside0 (Below w.heap.size w w'))
    case atStart => exact ⟨0, (by first | rfl | (simp; done) | (simp [*]; done)), ⟨by omega⟩, ⟨(zb0 HB)⟩⟩
    case round =>
      clear HB
      obtain ⟨i, rfl, HI, HB⟩ := hrel
      by_cases c : i < (l0.length : Int)
      · have cb := decide_eq_true c
        have c' : 0 ≤ i := HI.out.1
        have cb' := decide_eq_true c'
        obtain ⟨ad0, B0, d0, ea0, hw0, s0, q0⟩ := laws_intactTermSS.at_q HF0.out i c' c (by have := HS.out; omega)
        obtain ⟨ad1, B1, d1, ea1, hw1, s1, q1⟩ := laws_intactTermSS.at_q HF1.out i c' c (by have := HS.out; omega)
        cases gk with
        | zero => exact absurd HI.out.2 (by omega)
        | succ k1 =>
         cases ea0
         cases ea1
         have t0 : (flb filk38 false (rd_L4 l0 i)).take (rd_L4 l0 i).length = rd_L4 l0 i := by unfold flb; rw [List.take_left']; rfl
         have tl : (rd_L4 l0 i).length ≤ (flb filk38 false (rd_L4 l0 i)).length := by unfold flb; rw [List.length_append]; omega
         have u0 := Kd.C_take (m := (rd_L4 l0 i).length) q0 tl
         have u1 := Kd.C_take (m := (rd_L4 l0 i).length) q1 tl
         rw [t0] at u0 u1
         have P0 := Aside0.mk u0
         have P1 := Aside0.mk u1
         have R0 := Aside0.mk (Nat.le_trans tl s0)
         have R1 := Aside0.mk (Nat.le_trans tl s1)
         have Q0 := Aside0.mk q0
         have Q1 := Aside0.mk q1
         have S0 := Aside0.mk s0
         have S1 := Aside0.mk s1
         clear t0 tl u0 u1 q0 q1 s0 s1
         have hx0 := (HB.out.cell (World.block_lt_of_cell? w _ hw0)).trans hw0
         have hx1 := (HB.out.cell (World.block_lt_of_cell? w _ hw1)).trans hw1
         have p1 := eq_true c
         have p2 := eq_true c'
         have HI1 := Aside0.mk c
         clear c c'
         try go_wp2
         replace HB := Aside0.mk (below_drew1 HB.out)
         refine start_ (n := 10) (S := fun w' => w'.cell? (ad0.add (i).toNat) = some (.slice B0 (rd_L4 l0 i).length d0) ∧ w'.cell? (ad1.add (i).toNat) = some (.slice B1 (rd_L4 l0 i).length d1)) (ds := []) #[false, false, false, false, false, false, false, false, false, false] (by kernel_rfl) rfl rfl ⟨((HB.out.cell (World.block_lt_of_cell? w _ hw0)).trans hw0), ((HB.out.cell (World.block_lt_of_cell? w _ hw1)).trans hw1)⟩ (fun hHeld => ?_)
         generalize wr.drew = w10 at HB hHeld ⊢
         refine zp (i := 0) (N := some 24) #[true, false, false, false, false, false, false, false, false, false] (by kernel_rfl) ?_
         refine zp (i := 1) (N := some 25) #[true, true, false, false, false, false, false, false, false, false] (by kernel_rfl) ?_
         refine zp (i := 2) (N := some 26) #[true, true, true, false, false, false, false, false, false, false] (by kernel_rfl) ?_
         refine take_ (i := 3) (N := some 27) (v := ?_) (a' := ?_) #[true, true, true, true, false, false, false, false, false, false] rfl rfl (by kernel_rfl) (fun _ _ _ h => h) (Or.inl ⟨by rfl, ?_⟩) hHeld ?_ ?_
         rotate_left
         · rintro w' ⟨s0, s1⟩
           go_simp
           with_reducible rfl
         rotate_left
         · simp only [Act.put, List.setIfInBounds_toArray, List.set_cons_zero, List.set_cons_succ, i64_w, i32_w]; rfl
         refine zp (i := 4) (N := some 28) #[true, true, true, true, true, false, false, false, false, false] (by kernel_rfl) ?_
         refine zp (i := 5) (N := some 29) #[true, true, true, true, true, true, false, false, false, false] (by kernel_rfl) ?_
         refine zp (i := 6) (N := some 30) #[true, true, true, true, true, true, true, false, false, false] (by kernel_rfl) ?_
         refine take_ (i := 7) (N := some 31) (v := ?_) (a' := ?_) #[true, true, true, true, true, true, true, true, false, false] rfl rfl (by kernel_rfl) (fun _ _ _ h => h) (Or.inl ⟨by rfl, ?_⟩) hHeld ?_ ?_
         rotate_left
         · rintro w' ⟨s0, s1⟩
           go_simp
           with_reducible rfl
         rotate_left
         · simp only [Act.put, List.setIfInBounds_toArray, List.set_cons_zero, List.set_cons_succ, i64_w, i32_w]; rfl
         refine one_ (i := 8) (N := (some 32)) #[true, true, true, true, true, true, true, true, true, false] rfl rfl (by kernel_rfl) (by decide) (fun K hK => ?_)
         refine goes_ Tryd.func17 (by kernel_rfl) rfl #[.slice B0 (rd_L4 l0 i).length d0, .slice B1 (rd_L4 l0 i).length d1] (by rfl) rfl rfl zq6 ?_
         with_reducible refine (laws_intactTermS.calls _ _ (rd_L4 l0 i) _ _ (rd_L4 l0 i) true _ (Kd.C_below P0.out HB.out) R0.out (Kd.C_below P1.out HB.out) R1.out (by unfold laws_intactTermS.f; rw [if_pos rfl]) (Kd.C_below Q0.out HB.out) S0.out (Kd.C_below Q1.out HB.out) S1.out).mono ?_
         rintro e w11 ⟨rfl, hb⟩
         refine ⟨_, rfl, ?_⟩
         replace HB := Aside0.mk (below_step (zb0 HB) hb)
         clear hb
         refine hK.out _ _ ⟨((HB.out.cell (World.block_lt_of_cell? w _ hw0)).trans hw0), ((HB.out.cell (World.block_lt_of_cell? w _ hw1)).trans hw1)⟩ (fun hHeld => ?_)
         clear hK K
         refine norm_ (a' := ?_) ?_ ?_
         rotate_left
         · show Act.put _ (some 32) _ = _
           simp only [Act.put, List.setIfInBounds_toArray, List.set_cons_zero, List.set_cons_succ, i64_w, i32_w]; rfl
         refine zp (i := 9) (N := some 33) #[true, true, true, true, true, true, true, true, true, true] (by kernel_rfl) ?_
         refine done_ (by kernel_rfl) ?_
         try go_wp2
         go_roundg k1
         case measure => omega
         case rel => exact ⟨(wrap64 (i + 1)), (by first | rfl | (simp; done) | (simp [*]; done)), ⟨by have h1 := HI.out; have h2 := HBG.out; have h3 := HS.out; have h4 := HI1.out; rw [show wrap64 (i + 1) = i + 1 by unfold wrap64; omega]; omega⟩, ⟨(zb0 HB)⟩⟩
      · have cb := decide_eq_false c
        clear c
        obtain ⟨i0, hi0, _, hsz, _⟩ := info_parts laws_toTermSS.info
        have hJ := HJ.out
        have hS := HS.out
        have hnn : ((l0.length : Int)).toNat = l0.length := Int.toNat_natCast _
        have hjn : ji5.toNat = (Kd.fulq filk38 false l0).length := by rw [hJ]; exact Int.toNat_natCast _
        have g0 := Kd.C_spq HF0.out
        have g1 := Kd.C_spq HF1.out
        have hm : ((Kd.fulq filk38 false l0).map Prod.fst).length = (Kd.fulq filk38 false l0).length := List.length_map _
        rw [← hm] at g0 g1
        have hcut0 := laws_intactTermSS.cut_midc (P := Tryd.prog) 26 35 .i64 .i64 Tryd.underlying26 hi0 1 hsz A0 l0.length c0 (l0.length : Int) ji5 (by omega) (by omega) (by have := HG0.out; omega)
        have hcut1 := laws_intactTermSS.cut_midc (P := Tryd.prog) 26 35 .i64 .i64 Tryd.underlying26 hi0 1 hsz A1 l0.length c1 (l0.length : Int) ji5 (by omega) (by omega) (by have := HG1.out; omega)
        have u0 := Kd.C_mid (lo := l0.length) (hi := (Kd.fulq filk38 false l0).length) (c := c0) g0 (by omega) (by omega) (by rw [hm]; exact HG0.out)
        have u1 := Kd.C_mid (lo := l0.length) (hi := (Kd.fulq filk38 false l0).length) (c := c1) g1 (by omega) (by omega) (by rw [hm]; exact HG1.out)
        obtain ⟨Y, hY⟩ : ∃ Y, Y = (((Kd.fulq filk38 false l0).map Prod.fst).take (Kd.fulq filk38 false l0).length).drop l0.length := ⟨_, rfl⟩
        have hyl : Y.length = (Kd.fulq filk38 false l0).length - l0.length := by rw [hY, List.length_drop, List.length_take, List.length_map]; omega
        rw [← hY] at u0 u1
        rw [hnn, hjn, ← hyl] at hcut0 hcut1
        obtain ⟨X0, hX0⟩ : ∃ X0, X0 = (if c0 = l0.length then A0 else A0.map (·.add (l0.length * 1))) := ⟨_, rfl⟩
        obtain ⟨X1, hX1⟩ : ∃ X1, X1 = (if c1 = l0.length then A1 else A1.map (·.add (l0.length * 1))) := ⟨_, rfl⟩
        rw [← hX0] at hcut0
        rw [← hX1] at hcut1
        replace u0 : Kd.C (Kd.slice 38 k38) w X0 Y.length Y := by rw [hX0]; exact u0
        replace u1 : Kd.C (Kd.slice 38 k38) w X1 Y.length Y := by rw [hX1]; exact u1
        obtain ⟨kq, hself⟩ := laws_eqTermSS.self Y (by have := HBG.out; first | omega | (unfold maxLen at this; omega)) (fun x hx => by
          obtain ⟨j, hj, e⟩ := List.getElem_of_mem hx
          obtain ⟨_, _, _, _, _, _, hC⟩ := at_L4 u0 (j : Int) (by omega) (by omega)
          have h1 := hC.2.1
          have h2 : rd_L4 Y (j : Int) = x := by unfold rd_L4; rw [Int.toNat_natCast, List.getD_eq_getElem?_getD, List.getElem?_eq_getElem hj]; exact e
          rw [h2] at h1
          first | exact h1 | (simpa [maxLen] using h1))
        have A10 := Aside0.mk hself
        have T0 := Aside0.mk u0
        have T1 := Aside0.mk u1
        have U0 := Aside0.mk (show Y.length ≤ c0 - l0.length by have := HG0.out; omega)
        have U1 := Aside0.mk (show Y.length ≤ c1 - l0.length by have := HG1.out; omega)
        clear hi0 hsz hJ hS hnn hjn hm g0 g1 u0 u1 hY hyl hX0 hX1 hself
        try go_wp2
        replace HB := Aside0.mk (below_drew1 HB.out)
        refine start_ (n := 12) (S := fun w' => True) (ds := []) #[false, false, false, false, false, false, false, false, false, false, false, false] (by kernel_rfl) rfl rfl trivial (fun hHeld => ?_)
        generalize wr.drew = w21 at HB hHeld ⊢
        refine zp (i := 0) (N := some 34) #[true, false, false, false, false, false, false, false, false, false, false, false] (by kernel_rfl) ?_
        refine zp (i := 1) (N := some 35) #[true, true, false, false, false, false, false, false, false, false, false, false] (by kernel_rfl) ?_
        refine zp (i := 2) (N := some 36) #[true, true, true, false, false, false, false, false, false, false, false, false] (by kernel_rfl) ?_
        refine zp (i := 3) (N := some 37) #[true, true, true, true, false, false, false, false, false, false, false, false] (by kernel_rfl) ?_
        refine zp (i := 4) (N := some 38) #[true, true, true, true, true, false, false, false, false, false, false, false] (by kernel_rfl) ?_
        refine zp (i := 5) (N := some 39) #[true, true, true, true, true, true, false, false, false, false, false, false] (by kernel_rfl) ?_
        refine zp (i := 6) (N := some 40) #[true, true, true, true, true, true, true, false, false, false, false, false] (by kernel_rfl) ?_
        refine zp (i := 7) (N := some 41) #[true, true, true, true, true, true, true, true, false, false, false, false] (by kernel_rfl) ?_
        refine zp (i := 8) (N := some 42) #[true, true, true, true, true, true, true, true, true, false, false, false] (by kernel_rfl) ?_
        refine zp (i := 9) (N := some 43) #[true, true, true, true, true, true, true, true, true, true, false, false] (by kernel_rfl) ?_
        refine one_ (i := 10) (N := (some 44)) #[true, true, true, true, true, true, true, true, true, true, true, false] rfl rfl (by kernel_rfl) (by decide) (fun K hK => ?_)
        refine goes_ Tryd.func18 (by kernel_rfl) rfl #[.slice X0 Y.length (c0 - l0.length), .slice X1 Y.length (c1 - l0.length)] (by rfl) rfl rfl zq6 ?_
        with_reducible refine (laws_eqTermSS.calls kq _ _ Y _ _ Y true _ (Kd.C_below T0.out HB.out) U0.out (Kd.C_below T1.out HB.out) U1.out A10.out).mono ?_
        rintro e w24 ⟨rfl, hb⟩
        refine ⟨_, rfl, ?_⟩
        replace HB := Aside0.mk (below_step (zb0 HB) hb)
        clear hb
        refine hK.out _ _ trivial (fun hHeld => ?_)
        clear hK K
        refine norm_ (a' := ?_) ?_ ?_
        rotate_left
        · show Act.put _ (some 44) _ = _
          simp only [Act.put, List.setIfInBounds_toArray, List.set_cons_zero, List.set_cons_succ, i64_w, i32_w]; rfl
        refine zp (i := 11) (N := some 4) #[true, true, true, true, true, true, true, true, true, true, true, true] (by kernel_rfl) ?_
        refine done_ (by kernel_rfl) ?_
        try go_wp2
        go_ret
        exact ⟨by first | rfl | (simp; done) | (simp [*]; done), (zb0 HB)⟩
  · rw [if_neg hl] at h; cases h
end Go.Proofs.YtemjjknnelngcaaDoor.PD
