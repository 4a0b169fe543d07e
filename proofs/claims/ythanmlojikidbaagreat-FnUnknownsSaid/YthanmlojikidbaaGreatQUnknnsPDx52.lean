-- By wip/mk/drv.py
import Derived.Test.YthanmlojikidbaaGreatQUnknnsPDx0
import Derived.Test.YthanmlojikidbaaGreatQUnknnsPDx5
import Derived.Test.YthanmlojikidbaaGreatQUnknnsPDx6
import Derived.Test.YthanmlojikidbaaGreatQUnknnsPDx11
import Derived.Test.YthanmlojikidbaaGreatQUnknnsPDx28
import Derived.Test.YthanmlojikidbaaGreatQUnknnsPDx39
namespace Go.Proofs.YthanmlojikidbaaGreat.PD
open Go.RowKit Go.Proofs.YthanmlojikidbaaGreatW.PrintWords Go.Proofs.YthanmlojikidbaaGreatW.PrintLast Go.Proofs.YthanmlojikidbaaGreatW.PrintMore
attribute [local go_sem] max2_int min2_int max_two min_two max_three min_three max_four min_four
set_option linter.unusedVariables false
set_option linter.unusedSimpArgs false
/-! ### laws_FnUnknowns: function 3 -/
-- PROOF
def laws_FnUnknowns.Rw1 (w : World) (x : Option Addr × Nat × (List S62 ⊕ List Int)) : Prop := match x.2.2 with
  | .inl l => Kd.C k62 w x.1 l.length l ∧ l.length ≤ x.2.1
  | .inr l => Kd.C (Kd.int .i64) w x.1 l.length l ∧ l.length ≤ x.2.1
theorem laws_FnUnknowns.rw_below {w w' : World} {x : Option Addr × Nat × (List S62 ⊕ List Int)} (h : laws_FnUnknowns.Rw1 w x) (hb : Below w.heap.size w w') : laws_FnUnknowns.Rw1 w' x := by
  obtain ⟨A, c, l | l⟩ := x
  · exact ⟨Kd.C_below h.1 hb, h.2⟩
  · exact ⟨Kd.C_below h.1 hb, h.2⟩
def laws_FnUnknowns.Lv (w0 w : World) (L : List (Option Addr × Nat × (List S62 ⊕ List Int))) : Prop := Below w0.heap.size w0 w ∧ ∀ x ∈ L, laws_FnUnknowns.Rw1 w x
theorem laws_FnUnknowns.lv_c {w0 w : World} {L : List (Option Addr × Nat × (List S62 ⊕ List Int))} (h : laws_FnUnknowns.Lv w0 w L) (i : Nat) {A : Option Addr} {c : Nat} {l : List S62} (hi : L[i]? = some (A, c, .inl l) := by rfl) : Kd.C k62 w A l.length l := (h.2 _ (List.mem_of_getElem? hi)).1
theorem laws_FnUnknowns.lv_n {w0 w : World} {L : List (Option Addr × Nat × (List S62 ⊕ List Int))} (h : laws_FnUnknowns.Lv w0 w L) (i : Nat) {A : Option Addr} {c : Nat} {l : List S62} (hi : L[i]? = some (A, c, .inl l) := by rfl) : l.length ≤ c := (h.2 _ (List.mem_of_getElem? hi)).2
theorem laws_FnUnknowns.lw_c {w0 w : World} {L : List (Option Addr × Nat × (List S62 ⊕ List Int))} (h : laws_FnUnknowns.Lv w0 w L) (i : Nat) {A : Option Addr} {c : Nat} {l : List Int} (hi : L[i]? = some (A, c, .inr l) := by rfl) : Kd.C (Kd.int .i64) w A l.length l := (h.2 _ (List.mem_of_getElem? hi)).1
theorem laws_FnUnknowns.lw_n {w0 w : World} {L : List (Option Addr × Nat × (List S62 ⊕ List Int))} (h : laws_FnUnknowns.Lv w0 w L) (i : Nat) {A : Option Addr} {c : Nat} {l : List Int} (hi : L[i]? = some (A, c, .inr l) := by rfl) : l.length ≤ c := (h.2 _ (List.mem_of_getElem? hi)).2
theorem laws_FnUnknowns.lv_step {w0 w w' : World} {L : List (Option Addr × Nat × (List S62 ⊕ List Int))} (h : laws_FnUnknowns.Lv w0 w L) (hb : Below w.heap.size w w') : laws_FnUnknowns.Lv w0 w' L := ⟨below_step h.1 hb, fun x hx => laws_FnUnknowns.rw_below (h.2 x hx) hb⟩
theorem laws_FnUnknowns.lv_new {w0 w w' : World} {L : List (Option Addr × Nat × (List S62 ⊕ List Int))} (h : laws_FnUnknowns.Lv w0 w L) (hb : Below w.heap.size w w') {y : Option Addr × Nat × (List S62 ⊕ List Int)} (hy : laws_FnUnknowns.Rw1 w' y) : laws_FnUnknowns.Lv w0 w' (L ++ [y]) := by
  refine ⟨below_step h.1 hb, fun x hx => ?_⟩
  rcases List.mem_append.1 hx with hx | hx
  · exact laws_FnUnknowns.rw_below (h.2 x hx) hb
  · rw [List.mem_singleton.1 hx]; exact hy
theorem laws_FnUnknowns.lv_add {w0 w w' : World} {L : List (Option Addr × Nat × (List S62 ⊕ List Int))} (h : laws_FnUnknowns.Lv w0 w L) (hb : Below w.heap.size w w') {A : Option Addr} {c : Nat} {l : List S62} (hc : Kd.C k62 w' A l.length l) (hl : l.length ≤ c) : laws_FnUnknowns.Lv w0 w' (L ++ [(A, c, .inl l)]) := laws_FnUnknowns.lv_new h hb ⟨hc, hl⟩
theorem laws_FnUnknowns.lw_add {w0 w w' : World} {L : List (Option Addr × Nat × (List S62 ⊕ List Int))} (h : laws_FnUnknowns.Lv w0 w L) (hb : Below w.heap.size w w') {A : Option Addr} {c : Nat} {l : List Int} (hc : Kd.C (Kd.int .i64) w' A l.length l) (hl : l.length ≤ c) : laws_FnUnknowns.Lv w0 w' (L ++ [(A, c, .inr l)]) := laws_FnUnknowns.lv_new h hb ⟨hc, hl⟩
theorem laws_FnUnknowns.lv_take {w0 w : World} {L M : List (Option Addr × Nat × (List S62 ⊕ List Int))} (h : laws_FnUnknowns.Lv w0 w L) (hm : ∀ x ∈ M, x ∈ L) : laws_FnUnknowns.Lv w0 w M := ⟨h.1, fun x hx => h.2 x (hm x hx)⟩
theorem laws_FnUnknowns.lv_two {P : Program} {f : Nat} {args : Array Value} {w : World} {x : Value} {ok : Nat → Prop} {r : List S62} (h : Calls P f args w fun e w' => ∃ v0_ : Value, e = .returned (.tuple #[v0_, x]) ∧ Kd.R k62 62 w' w.heap.size ok v0_ r ∧ Below w.heap.size w w') :
    Calls P f args w fun e w' => ∃ (A : Option Addr) (c : Nat), e = .returned (.tuple #[.slice A r.length c, x]) ∧ Kd.C k62 w' A r.length r ∧ r.length ≤ c ∧ Below w.heap.size w w' := by
  refine h.mono ?_
  rintro e w' ⟨v, rfl, ho, hb⟩
  obtain ⟨A, c, rfl⟩ := Kd.R_slice ho
  exact ⟨A, c, rfl, (Kd.R_reads' ho).2.2, (Kd.R_reads' ho).2.1, hb⟩
theorem laws_FnUnknowns.lw_two {P : Program} {f : Nat} {args : Array Value} {w : World} {x : Value} {ok : Nat → Prop} {r : List Int} (h : Calls P f args w fun e w' => ∃ v0_ : Value, e = .returned (.tuple #[v0_, x]) ∧ Kd.R (Kd.int .i64) 3 w' w.heap.size ok v0_ r ∧ Below w.heap.size w w') :
    Calls P f args w fun e w' => ∃ (A : Option Addr) (c : Nat), e = .returned (.tuple #[.slice A r.length c, x]) ∧ Kd.C (Kd.int .i64) w' A r.length r ∧ r.length ≤ c ∧ Below w.heap.size w w' := by
  refine h.mono ?_
  rintro e w' ⟨v, rfl, ho, hb⟩
  obtain ⟨A, c, rfl⟩ := Kd.R_slice ho
  exact ⟨A, c, rfl, (Kd.R_reads' ho).2.2, (Kd.R_reads' ho).2.1, hb⟩
theorem laws_FnUnknowns.lv_three {P : Program} {f : Nat} {args : Array Value} {w : World} {x y : Value} {ok : Nat → Prop} {r : List S62} (h : Calls P f args w fun e w' => ∃ v0_ : Value, e = .returned (.tuple #[v0_, x, y]) ∧ Kd.R k62 62 w' w.heap.size ok v0_ r ∧ Below w.heap.size w w') :
    Calls P f args w fun e w' => ∃ (A : Option Addr) (c : Nat), e = .returned (.tuple #[.slice A r.length c, x, y]) ∧ Kd.C k62 w' A r.length r ∧ r.length ≤ c ∧ Below w.heap.size w w' := by
  refine h.mono ?_
  rintro e w' ⟨v, rfl, ho, hb⟩
  obtain ⟨A, c, rfl⟩ := Kd.R_slice ho
  exact ⟨A, c, rfl, (Kd.R_reads' ho).2.2, (Kd.R_reads' ho).2.1, hb⟩
theorem laws_FnUnknowns.lv_one {P : Program} {f : Nat} {args : Array Value} {w : World} {ok : Nat → Prop} {r : List S62} (h : Calls P f args w fun e w' => ∃ v0_ : Value, e = .returned (v0_) ∧ Kd.R k62 62 w' w.heap.size ok v0_ r ∧ Below w.heap.size w w') :
    Calls P f args w fun e w' => ∃ (A : Option Addr) (c : Nat), e = .returned (.slice A r.length c) ∧ Kd.C k62 w' A r.length r ∧ r.length ≤ c ∧ Below w.heap.size w w' := by
  refine h.mono ?_
  rintro e w' ⟨v, rfl, ho, hb⟩
  obtain ⟨A, c, rfl⟩ := Kd.R_slice ho
  exact ⟨A, c, rfl, (Kd.R_reads' ho).2.2, (Kd.R_reads' ho).2.1, hb⟩
theorem laws_FnUnknowns.lv_val {P : Program} {f : Nat} {args : Array Value} {w : World} {v : Value} (h : Calls P f args w fun e w' => e = .returned v ∧ Drawn0 w w') : Calls P f args w fun e w' => e = .returned v ∧ Below w.heap.size w w' := by
  refine h.mono ?_
  rintro e w' ⟨rfl, ⟨nd, rfl⟩⟩
  exact ⟨rfl, (Below.refl _ _).trans ⟨rfl, rfl, rfl, Nat.le_refl _, fun _ _ => rfl⟩⟩
theorem laws_FnUnknowns.bk_len (o : List Int) : ∀ n, (laws_FnUnknowns.bkn o n).length = 3
  | 0 => rfl
  | n + 1 => by rw [laws_FnUnknowns.bkn, List.length_set]; exact laws_FnUnknowns.bk_len o n
theorem laws_FnUnknowns.bk_step (o : List Int) {j : Int} (h : 0 ≤ j) : (laws_FnUnknowns.bkn o j.toNat).set (rd o j).toNat j = laws_FnUnknowns.bkn o (j + 1).toNat := by
  have e : (j + 1).toNat = j.toNat + 1 := by omega
  rw [e, laws_FnUnknowns.bkn, Int.toNat_of_nonneg h]
theorem laws_FnUnknowns.back (K : Nat) (A0 : Option Addr) (c0 : Nat) (l0 : List S62) (A1 : Option Addr) (c1 : Nat) (l1 : List Int) (r1 : List S62) (r2 : Bool) (w : World) (hn : l1.length = 3) (hr0 : Kd.C k62 w A0 l0.length l0) (hc0 : l0.length ≤ c0) (hr1 : Kd.C (Kd.int .i64) w A1 l1.length l1) (hc1 : l1.length ≤ c1) (h : impl_ExchangeUnknowns.f K l0 l1 = some (r1, r2)) :
    Calls Tryz.prog 6 #[.slice A0 l0.length c0, .slice A1 3 c1] w fun e w' => ∃ (A : Option Addr) (c : Nat), e = .returned (.tuple #[.slice A r1.length c, .bool r2]) ∧ Kd.C k62 w' A r1.length r1 ∧ r1.length ≤ c ∧ Below w.heap.size w w' := by
  have := laws_FnUnknowns.lv_two (impl_ExchangeUnknowns.calls K A0 c0 l0 A1 c1 l1 r1 r2 w hr0 hc0 hr1 hc1 h)
  rw [hn] at this
  exact this
set_option maxHeartbeats 16000000 in
set_option maxRecDepth 100000 in
theorem laws_FnUnknowns.calls (K : Nat) (X0 : Option Addr) (d0 : Nat) (l0 : List Int) (X1 : Option Addr) (d1 : Nat) (l1 : List Int) (r : Bool) (w : World) (hr0 : Kd.C (Kd.int .u8) w X0 l0.length l0) (hc0 : l0.length ≤ d0) (hr1 : Kd.C (Kd.int .u8) w X1 l1.length l1) (hc1 : l1.length ≤ d1) (h : laws_FnUnknowns.ok K l0 l1 r) :
    Calls Tryz.prog 3 #[.slice X0 l0.length d0, .slice X1 l1.length d1] w fun e w' => e = .returned (.bool r) ∧ Below w.heap.size w w' := by
  have HR0 := qa hr0
  have HC0 := qa hc0
  have HR1 := qa hr1
  have HC1 := qa hc1
  clear hr0 hc0 hr1 hc1
  obtain ⟨rfl, h | ⟨h, p, e, q, t, v, z, o, us, s, d, u, n, d2, k, d3, m, b1, b2, b3, b4, b5, h1, h2, h3, h4, h5, h6, h7⟩⟩ := h
  · have E0 := qa h
    clear h
    go_enter Tryz.func3, Tryz.ntmps3
    go_wp2_with ((go_at_call 4; refine (laws_FnUnknowns.lv_val (laws_big.calls _ _ l0 _ _ l1 true _ HR0.out HC0.out HR1.out HC1.out E0.out)).mono ?_; rintro e w0 ⟨rfl, hb⟩; have HL := qa (show laws_FnUnknowns.Lv w w0 [] from ⟨hb, fun x hx => by cases hx⟩); clear hb))
    go_ret
    exact ⟨by first | rfl | (simp; done), HL.out.1⟩
  · have E0 := qa h
    have F := qa h2; have I := qa h4
    obtain ⟨e1, e2, e3, e4⟩ := h1
    obtain ⟨g1, g2, g3, g4⟩ := h3
    obtain ⟨j1, j2, j3⟩ := h5
    obtain ⟨k1, k2, k3, k4, k5⟩ := h6
    obtain ⟨s1, s2, s3⟩ := h7
    have E1 := qa e1; have E2 := qa e2; have E3 := qa e3; have E4 := qa e4
    have G1 := qa g1; have G2 := qa g2; have G3 := qa g3; have G4 := qa g4
    have J1 := qa j1; have J2 := qa j2; have J3 := qa j3
    have K1 := qa k1; have K2 := qa k2; have K3 := qa k3; have K4 := qa k4; have K5 := qa k5
    have S1 := qa s1; have S2 := qa s2; have S3 := qa s3
    clear h h2 h4 e1 e2 e3 e4 g1 g2 g3 g4 j1 j2 j3 k1 k2 k3 k4 k5 s1 s2 s3
    have nb1 : (b1 != b1) = false := bne_self_eq_false _
    have nb2 : (b2 != b2) = false := bne_self_eq_false _
    have ndd : (d != d) = false := bne_self_eq_false _
    go_enter Tryz.func3, Tryz.ntmps3
    go_upto_if 74 with (first | (go_at_call 4; refine (laws_FnUnknowns.lv_val (laws_big.calls _ _ l0 _ _ l1 false _ HR0.out HC0.out HR1.out HC1.out E0.out)).mono ?_; rintro e w0 ⟨rfl, hb⟩; have HL := qa (show laws_FnUnknowns.Lv w w0 [] from ⟨hb, fun x hx => by cases hx⟩); clear hb) | (go_at_call 5; refine (spec_DrawExchangeUnknowns.calls K _ _ l0 p o _ (Kd.C_below HR0.out HL.out.1) HC0.out E1.out).mono ?_; rintro e w1 ⟨v1, v2, rfl, h1, h2, hb⟩; obtain ⟨Ap, cp, rfl⟩ := Kd.R_slice h1; obtain ⟨Ao, co, rfl⟩ := Kd.R_slice h2; replace HL := qa (laws_FnUnknowns.lw_add (laws_FnUnknowns.lv_add HL.out hb (Kd.R_reads' h1).2.2 (Kd.R_reads' h1).2.1) (Below.refl _ _) (Kd.R_reads' h2).2.2 (Kd.R_reads' h2).2.1); clear h1 h2 hb) | (go_at_call 6; (with_reducible refine (laws_FnUnknowns.lv_two (impl_ExchangeUnknowns.calls K _ _ p _ _ o e _ _ ?sc0 ?sn0 ?sc1 ?sn1 E2.out)).mono ?_); (case sc0 => exact laws_FnUnknowns.lv_c HL.out 0); (case sn0 => exact laws_FnUnknowns.lv_n HL.out 0); (case sc1 => exact laws_FnUnknowns.lw_c HL.out 1); (case sn1 => exact laws_FnUnknowns.lw_n HL.out 1); rintro e w11 ⟨A11, c11, rfl, hc, hl, hb⟩; replace HL := qa (laws_FnUnknowns.lv_add HL.out hb hc hl); clear hc hl hb) | (go_at_call 7; (with_reducible refine (laws_FnUnknowns.lv_two (spec_ExchangeUnknowns.calls K _ _ p _ _ o e _ _ ?sc0 ?sn0 ?sc1 ?sn1 E3.out)).mono ?_); (case sc0 => exact laws_FnUnknowns.lv_c HL.out 0); (case sn0 => exact laws_FnUnknowns.lv_n HL.out 0); (case sc1 => exact laws_FnUnknowns.lw_c HL.out 1); (case sn1 => exact laws_FnUnknowns.lw_n HL.out 1); rintro e w12 ⟨A12, c12, rfl, hc, hl, hb⟩; replace HL := qa (laws_FnUnknowns.lv_add HL.out hb hc hl); clear hc hl hb) | (go_at_call 8; (with_reducible refine (laws_FnUnknowns.lv_val (laws_pSameTerms.calls K _ _ e _ _ e true _ ?sc0 ?sn0 ?sc1 ?sn1 E4.out)).mono ?_); (case sc0 => exact laws_FnUnknowns.lv_c HL.out 2); (case sn0 => exact laws_FnUnknowns.lv_n HL.out 2); (case sc1 => exact laws_FnUnknowns.lv_c HL.out 3); (case sn1 => exact laws_FnUnknowns.lv_n HL.out 3); rintro e w13 ⟨rfl, hb⟩; replace HL := qa (laws_FnUnknowns.lv_step HL.out hb); clear hb))
    go_cut [] (fun wc => Aside0 (laws_FnUnknowns.Lv w wc [(Ap, cp, .inl p), (Ao, co, .inr o), (A11, c11, .inl e), (A12, c12, .inl e)]))
    case first =>
      cases b1
      · go_wp2_with fail
        go_meet
        case rel => exact ⟨laws_FnUnknowns.lv_take HL.out (by simp)⟩
      · as_aux_lemma =>
        obtain ⟨⟨f0, f1⟩, f2, f3, f4, f5⟩ := F.out rfl
        have F0 := qa f0; have F1 := qa f1; have F2 := qa f2; have F3 := qa f3; have F4 := qa f4; have F5 := qa f5
        clear f0 f1 f2 f3 f4 f5
        go_wp2_with (first | ((with_reducible refine gate_dst (N := 75) rfl ?_); refine Kd.R_make (Kd.int .i64) _ 3 rfl (N := 75) rfl 25 _ _ rfl 3 rfl rfl Tryz.underlying25 (.int .i64 0) 8 info3 rfl (by decide) (by omega) 0 (ok := fun _ => True) (okp := fun _ => True) rfl (fun _ hk => hk) trivial (by decide) (by decide) (Below.refl _ _) (Nat.le_refl _) ?_; intro vb wm hR hb hg_ hnew_; clear hg_ hnew_; obtain ⟨gb, cb, rfl, hge, -, -⟩ := Kd.R_form hR (by simp); have HM := qa hR; have HB := qa hb; have HG := qa hge; clear hR hb hge))
        go_loopg [78] 3 (fun kq v78 w' => ∃ (j : Int), v78 = .int .i64 j ∧ Aside0 ((kq : Int) = 3 - j ∧ 0 ≤ j ∧ j ≤ 3) ∧ Aside0 (Kd.R (Kd.int .i64) 3 w' w13.heap.size (fun _ => True) (.slice (some ⟨gb, 0, none⟩) 3 cb) (laws_FnUnknowns.bkn o j.toNat)) ∧ Aside0 (Below w13.heap.size w13 w'))
        case atStart => exact ⟨0, qf, ⟨by omega⟩, HM, HB⟩
        case round =>
          clear HM HB
          obtain ⟨j, rfl, HJ, HM, HB⟩ := hrel
          by_cases c5 : j < (o.length : Int)
          · have hc := laws_FnUnknowns.lw_c (laws_FnUnknowns.lv_step HL.out HB.out) 1
            have p1 : 0 ≤ j := HJ.out.2.1
            obtain ⟨p2, q2⟩ := F1.out j p1 (by have := F0.out; omega)
            obtain ⟨ad, e1, hx⟩ := Kd.at_int hc j p1 c5
            cases e1
            clear hc
            have cb5 := decide_eq_true c5
            obtain ⟨hx2, hf2⟩ := Kd.R_celln 0 HM.out (rd o j) p2 q2
            have HP := qa (Kd.R_putg HM.out (rd o j) j)
            have hj3 : j + 1 ≤ 3 := by have := F0.out; omega
            have HJ3 := qa hj3
            replace p1 := eq_true p1; replace c5 := eq_true c5; replace p2 := eq_true p2; replace q2 := eq_true q2
            clear hj3
            go_wp2_with (first | ((with_reducible refine gate_store (t := 3) (p := 86) rfl ?_); refine store_event (t := 3) (p := 86) (v := ?vo) (w1 := (wr.setCell ⟨gb, (rd o j).toNat, none⟩ (.int .i64 j))) ?hg ?ho ?hn ?hr ?_; (case ho => rfl); (case hg => rfl); (case hn => rfl); (case hr => first | (go_simp; done) | (go_simp; rfl)); intro ws hw; have hp_ : Kd.R (Kd.int .i64) 3 ws w13.heap.size (fun _ => True) (.slice (some ⟨gb, 0, none⟩) 3 cb) (laws_FnUnknowns.bkn o (j + 1).toNat) := (by rw [hw, ← laws_FnUnknowns.bk_step o HJ.out.2.1]; exact HP.out.1); replace HM := qa hp_; replace HB := qa ((by rw [hw]; exact below_set (HB.out) HG.out : Below w13.heap.size w13 ws)); clear hw hp_))
            go_roundg (gk - 1)
            case measure => have hj_ := HJ.out; have h3_ := HJ3.out; omega
            case rel => exact ⟨j + 1, (by have hj_ := HJ.out; rw [show wrap64 (j + 1) = j + 1 from by unfold wrap64; omega]), ⟨by have hj_ := HJ.out; have h3_ := HJ3.out; omega⟩, HM, HB⟩
          · have cb5 := decide_eq_false c5
            have e3 : j = 3 := by have hj_ := HJ.out; have h0_ := F0.out; omega
            subst e3
            replace HL := qa (laws_FnUnknowns.lw_add (laws_FnUnknowns.lv_step HL.out HB.out) (Below.refl _ _) (Kd.R_reads' HM.out).2.2 (by rw [laws_FnUnknowns.bk_len]; exact (Kd.R_reads' HM.out).2.1))
            clear c5
            go_wp2_with (first | (go_at_call 6; (with_reducible refine (laws_FnUnknowns.back K _ _ e _ _ (laws_FnUnknowns.bkn o 3) p true _ (laws_FnUnknowns.bk_len o 3) ?sc0 ?sn0 ?sc1 ?sn1 F2.out).mono ?_); (case sc0 => exact laws_FnUnknowns.lv_c HL.out 2); (case sn0 => exact laws_FnUnknowns.lv_n HL.out 2); (case sc1 => exact laws_FnUnknowns.lw_c HL.out 4); (case sn1 => exact laws_FnUnknowns.lw_n HL.out 4); rintro e w14 ⟨A14, c14, rfl, hc, hl, hb⟩; replace HL := qa (laws_FnUnknowns.lv_add HL.out hb hc hl); clear hc hl hb) | (go_at_call 8; (with_reducible refine (laws_FnUnknowns.lv_val (laws_pSameTerms.calls K _ _ p _ _ p true _ ?sc0 ?sn0 ?sc1 ?sn1 F3.out)).mono ?_); (case sc0 => exact laws_FnUnknowns.lv_c HL.out 5); (case sn0 => exact laws_FnUnknowns.lv_n HL.out 5); (case sc1 => exact laws_FnUnknowns.lv_c HL.out 0); (case sn1 => exact laws_FnUnknowns.lv_n HL.out 0); rintro e w14 ⟨rfl, hb⟩; replace HL := qa (laws_FnUnknowns.lv_step HL.out hb); clear hb) | (go_at_call 9; (with_reducible refine ((impl_DegreeOf.calls K _ _ e d true _ ?sc0 ?sn0 F4.out)).mono ?_); (case sc0 => exact laws_FnUnknowns.lv_c HL.out 2); (case sn0 => exact laws_FnUnknowns.lv_n HL.out 2); rintro e w15 ⟨rfl, hb⟩; replace HL := qa (laws_FnUnknowns.lv_step HL.out hb); clear hb) | (go_at_call 10; (with_reducible refine ((spec_DegreeOf.calls K _ _ p d true _ ?sc0 ?sn0 F5.out)).mono ?_); (case sc0 => exact laws_FnUnknowns.lv_c HL.out 0); (case sn0 => exact laws_FnUnknowns.lv_n HL.out 0); rintro e w16 ⟨rfl, hb⟩; replace HL := qa (laws_FnUnknowns.lv_step HL.out hb); clear hb))
            go_meet
            case rel => exact ⟨laws_FnUnknowns.lv_take HL.out (by simp)⟩
    case rest =>
     as_aux_lemma =>
      clear HL
      have HL := hcut
      clear hcut
      go_upto_if 154 with (first | (go_at_call 11; replace HL := qa (laws_FnUnknowns.lv_take (M := []) HL.out (by simp)); (with_reducible refine (laws_FnUnknowns.lv_three (spec_DrawPutInteger.calls K _ _ l1 q u n _ ?sc0 ?sn0 G1.out)).mono ?_); (case sc0 => exact Kd.C_below HR1.out HL.out.1); (case sn0 => exact HC1.out); rintro e w17 ⟨A17, c17, rfl, hc, hl, hb⟩; replace HL := qa (laws_FnUnknowns.lv_add HL.out hb hc hl); clear hc hl hb) | (go_at_call 12; (with_reducible refine (laws_FnUnknowns.lv_two (impl_PutInteger.calls K _ _ q u n t _ _ ?sc0 ?sn0 G2.out)).mono ?_); (case sc0 => exact laws_FnUnknowns.lv_c HL.out 0); (case sn0 => exact laws_FnUnknowns.lv_n HL.out 0); rintro e w18 ⟨A18, c18, rfl, hc, hl, hb⟩; replace HL := qa (laws_FnUnknowns.lv_add HL.out hb hc hl); clear hc hl hb) | (go_at_call 13; (with_reducible refine (laws_FnUnknowns.lv_two (spec_PutInteger.calls K _ _ q u n t _ _ ?sc0 ?sn0 G3.out)).mono ?_); (case sc0 => exact laws_FnUnknowns.lv_c HL.out 0); (case sn0 => exact laws_FnUnknowns.lv_n HL.out 0); rintro e w19 ⟨A19, c19, rfl, hc, hl, hb⟩; replace HL := qa (laws_FnUnknowns.lv_add HL.out hb hc hl); clear hc hl hb) | (go_at_call 8; (with_reducible refine (laws_FnUnknowns.lv_val (laws_pSameTerms.calls K _ _ t _ _ t true _ ?sc0 ?sn0 ?sc1 ?sn1 G4.out)).mono ?_); (case sc0 => exact laws_FnUnknowns.lv_c HL.out 1); (case sn0 => exact laws_FnUnknowns.lv_n HL.out 1); (case sc1 => exact laws_FnUnknowns.lv_c HL.out 2); (case sn1 => exact laws_FnUnknowns.lv_n HL.out 2); rintro e w20 ⟨rfl, hb⟩; replace HL := qa (laws_FnUnknowns.lv_step HL.out hb); clear hb))
      go_cut [] (fun wc => Aside0 (laws_FnUnknowns.Lv w wc [(A17, c17, .inl q), (A18, c18, .inl t), (A19, c19, .inl t)]))
      case first =>
        cases b2
        · go_wp2_with fail
          go_meet
          case rel => exact ⟨laws_FnUnknowns.lv_take HL.out (by simp)⟩
        · as_aux_lemma =>
          obtain ⟨i1, i2, i3, i4, i5, i6⟩ := I.out rfl
          have I1 := qa i1; have I3 := qa i3; have I4 := qa i4; have I5 := qa i5; have I6 := qa i6
          have i7 : decide (d2 > 0) = false := decide_eq_false (by omega)
          clear i1 i2 i3 i4 i5 i6
          go_wp2_with (first | (go_at_call 14; (with_reducible refine ((impl_DegreeIn.calls K _ _ t u d2 true _ ?sc0 ?sn0 I1.out)).mono ?_); (case sc0 => exact laws_FnUnknowns.lv_c HL.out 1); (case sn0 => exact laws_FnUnknowns.lv_n HL.out 1); rintro e w21 ⟨rfl, hb⟩; replace HL := qa (laws_FnUnknowns.lv_step HL.out hb); clear hb) | (go_at_call 15; (with_reducible refine (laws_FnUnknowns.lw_two (impl_UnknownsOf.calls K _ _ t us true _ ?sc0 ?sn0 I3.out)).mono ?_); (case sc0 => exact laws_FnUnknowns.lv_c HL.out 1); (case sn0 => exact laws_FnUnknowns.lv_n HL.out 1); rintro e w22 ⟨A22, c22, rfl, hc, hl, hb⟩; replace HL := qa (laws_FnUnknowns.lw_add HL.out hb hc hl); clear hc hl hb) | (go_at_call 16; (with_reducible refine (laws_FnUnknowns.lw_two (spec_UnknownsOf.calls K _ _ t us true _ ?sc0 ?sn0 I4.out)).mono ?_); (case sc0 => exact laws_FnUnknowns.lv_c HL.out 2); (case sn0 => exact laws_FnUnknowns.lv_n HL.out 2); rintro e w23 ⟨A23, c23, rfl, hc, hl, hb⟩; replace HL := qa (laws_FnUnknowns.lw_add HL.out hb hc hl); clear hc hl hb) | (go_at_call 17; (with_reducible refine (laws_FnUnknowns.lv_val (laws_sameInts.calls K _ _ us _ _ us true _ ?sc0 ?sn0 ?sc1 ?sn1 I5.out)).mono ?_); (case sc0 => exact laws_FnUnknowns.lw_c HL.out 3); (case sn0 => exact laws_FnUnknowns.lw_n HL.out 3); (case sc1 => exact laws_FnUnknowns.lw_c HL.out 4); (case sn1 => exact laws_FnUnknowns.lw_n HL.out 4); rintro e w24 ⟨rfl, hb⟩; replace HL := qa (laws_FnUnknowns.lv_step HL.out hb); clear hb) | (go_at_call 18; (with_reducible refine (laws_FnUnknowns.lv_val (laws_pIn.calls K _ _ us u false _ ?sc0 ?sn0 I6.out)).mono ?_); (case sc0 => exact laws_FnUnknowns.lw_c HL.out 4); (case sn0 => exact laws_FnUnknowns.lw_n HL.out 4); rintro e w25 ⟨rfl, hb⟩; replace HL := qa (laws_FnUnknowns.lv_step HL.out hb); clear hb))
          go_meet
          case rel => exact ⟨laws_FnUnknowns.lv_take HL.out (by simp)⟩
      case rest =>
       as_aux_lemma =>
        clear HL
        have HL := hcut
        clear hcut
        have h3 : b4 = false ∨ (b4 = true ∧ decide (m < -1) = false ∧ decide (m > 4) = false ∧ ∃ x : Bool, (m == -1) = x ∧ ((z.length : Int) == 0) = x) := by
          cases b4
          · exact .inl rfl
          · obtain ⟨q1, q2, q3⟩ := K5.out rfl
            refine .inr ⟨rfl, decide_eq_false (by omega), decide_eq_false (by omega), decide (m = -1), rfl, ?_⟩
            by_cases hz : z.length = 0
            · rw [decide_eq_true (q3.2 hz)]; exact beq_iff_eq.2 (by omega)
            · rw [decide_eq_false (fun e => hz (q3.1 e))]; exact beq_eq_false_iff_ne.2 (by omega)
        have nb3 : (b3 != b3) = false := bne_self_eq_false _
        have nd3 : (d3 != d3) = false := bne_self_eq_false _
        have nm : (m != m) = false := bne_self_eq_false _
        have nb5 : (b5 == b5) = true := beq_self_eq_true _
        rcases h3 with rfl | ⟨rfl, m1, m2, x, m3, m4⟩
        all_goals as_aux_lemma =>
          (try have nx : (x != x) = false := bne_self_eq_false _)
          go_wp2_with (first | (go_at_call 19; replace HL := qa (laws_FnUnknowns.lv_take (M := []) HL.out (by simp)); (with_reducible refine (laws_FnUnknowns.lv_two (spec_DrawDegreeIn.calls K _ _ l1 v k _ ?sc0 ?sn0 J1.out)).mono ?_); (case sc0 => exact Kd.C_below HR1.out HL.out.1); (case sn0 => exact HC1.out); rintro e w26 ⟨A26, c26, rfl, hc, hl, hb⟩; replace HL := qa (laws_FnUnknowns.lv_add HL.out hb hc hl); clear hc hl hb) | (go_at_call 14; (with_reducible refine ((impl_DegreeIn.calls K _ _ v k d3 _ _ ?sc0 ?sn0 J2.out)).mono ?_); (case sc0 => exact laws_FnUnknowns.lv_c HL.out 0); (case sn0 => exact laws_FnUnknowns.lv_n HL.out 0); rintro e w27 ⟨rfl, hb⟩; replace HL := qa (laws_FnUnknowns.lv_step HL.out hb); clear hb) | (go_at_call 20; (with_reducible refine ((spec_DegreeIn.calls K _ _ v k d3 _ _ ?sc0 ?sn0 J3.out)).mono ?_); (case sc0 => exact laws_FnUnknowns.lv_c HL.out 0); (case sn0 => exact laws_FnUnknowns.lv_n HL.out 0); rintro e w28 ⟨rfl, hb⟩; replace HL := qa (laws_FnUnknowns.lv_step HL.out hb); clear hb) | (go_at_call 21; (with_reducible refine (laws_FnUnknowns.lv_one (spec_DrawDegreeOf.calls K _ _ l1 z _ ?sc0 ?sn0 K1.out)).mono ?_); (case sc0 => exact Kd.C_below HR1.out HL.out.1); (case sn0 => exact HC1.out); rintro e w29 ⟨A29, c29, rfl, hc, hl, hb⟩; replace HL := qa (laws_FnUnknowns.lv_add HL.out hb hc hl); clear hc hl hb) | (go_at_call 9; (with_reducible refine ((impl_DegreeOf.calls K _ _ z m _ _ ?sc0 ?sn0 K2.out)).mono ?_); (case sc0 => exact laws_FnUnknowns.lv_c HL.out 1); (case sn0 => exact laws_FnUnknowns.lv_n HL.out 1); rintro e w30 ⟨rfl, hb⟩; replace HL := qa (laws_FnUnknowns.lv_step HL.out hb); clear hb) | (go_at_call 10; (with_reducible refine ((spec_DegreeOf.calls K _ _ z m _ _ ?sc0 ?sn0 K3.out)).mono ?_); (case sc0 => exact laws_FnUnknowns.lv_c HL.out 1); (case sn0 => exact laws_FnUnknowns.lv_n HL.out 1); rintro e w31 ⟨rfl, hb⟩; replace HL := qa (laws_FnUnknowns.lv_step HL.out hb); clear hb) | (go_at_call 22; (with_reducible refine ((impl_IsPoly.calls K _ _ z _ _ ?sc0 ?sn0 K4.out)).mono ?_); (case sc0 => exact laws_FnUnknowns.lv_c HL.out 1); (case sn0 => exact laws_FnUnknowns.lv_n HL.out 1); rintro e w32 ⟨rfl, hb⟩; replace HL := qa (laws_FnUnknowns.lv_step HL.out hb); clear hb) | (go_at_call 23; (with_reducible refine (spec_DrawIsSystem.calls K _ _ l1 s _ ?sc0 ?sn0 S1.out).mono ?_); (case sc0 => exact Kd.C_below HR1.out HL.out.1); (case sn0 => exact HC1.out); rintro e ws ⟨vs, rfl, h1, hb⟩; obtain ⟨As, cs, rfl⟩ := Kd.S_slice h1; have HS := qa (And.intro (Kd.S_reads' h1).2.2 (Kd.S_reads' h1).2.1); replace HL := qa (laws_FnUnknowns.lv_step HL.out hb); clear h1 hb) | (go_at_call 24; (with_reducible refine (impl_IsSystem.calls K _ _ s b5 _ ?sc0 ?sn0 S2.out).mono ?_); (case sc0 => exact HS.out.1); (case sn0 => exact HS.out.2); rintro e wt ⟨rfl, hb⟩; replace HS := qa (And.intro (Kd.C_below HS.out.1 hb) HS.out.2); replace HL := qa (laws_FnUnknowns.lv_step HL.out hb); clear hb) | (go_at_call 25; (with_reducible refine (spec_IsSystem.calls K _ _ s b5 _ ?sc0 ?sn0 S3.out).mono ?_); (case sc0 => exact HS.out.1); (case sn0 => exact HS.out.2); rintro e wt ⟨rfl, hb⟩; replace HS := qa (And.intro (Kd.C_below HS.out.1 hb) HS.out.2); replace HL := qa (laws_FnUnknowns.lv_step HL.out hb); clear hb))
          go_ret
          exact ⟨by first | rfl | (simp; done) | (simp [nb5]; done), HL.out.1⟩
end Go.Proofs.YthanmlojikidbaaGreat.PD
