import Derived.Test.YtgaoniapddpaaaaRows
import Derived.Test.YtgaoniapddpaaaaQBoxOOfRw
import Derived.Test.YtgaoniapddpaaaaQBoxOOfPDx48
import Derived.Test.YtgaoniapddpaaaaQBoxOOfPureFnExactBoxOf
import Derived.WalkKit
import Derived.ProofKit
import Derived.OpenShut
import Derived.ShutString
import Derived.ChangeOld
import Derived.Below
import Derived.SizedLaws
import Derived.Carry
/- FnExactBoxOf: for every input of its kinds the law FnExactBoxOf answers true, and what it was handed reads as before; over the program as it lies, with no condition. -/
namespace Go.Proofs.Ytgaoniapddpaaaa.fnExactBoxOf
open Go.ChangeShapes Go.WideShapes Go.ChangeAt Go.RowKit Go.Proofs.YtgaoniapddpaaaaW.PrintWords Go.Proofs.YtgaoniapddpaaaaR
open Go.ChangeMaps (open_string shut_string)
open Go.Proofs.Ytgaoniapddpaaaa.PD
theorem own : ownKnob Try.prog.godebug = none := by kernel_rfl
theorem laidOut : laidOutB Try.prog = true := by kernel_rfl
theorem op3 : Opens Try.prog 3 (Kd.int .i64) (fun (x : Int) => (Lit.int .i64 x).wf = true) := opens_int Try.underlying3
theorem op22 : Opens Try.prog 22 (Kd.slice 3 (Kd.int .i64)) (fun (x : List Int) => (x.length ≤ maxLen ∧ ∀ y ∈ x, (Lit.int .i64 y).wf = true)) := opens_slice Try.underlying22 (by kernel_rfl) op3
set_option maxRecDepth 100000 in
theorem lifted (os : Os) (started : os.Started) (H : Type) (enc : TypeId × Value → H) :
    ReturnsInHanded {} Try.checked os 8 .any (Rows.fnExactBoxOfSpec.pre6 enc Try.prog Try.f8 Rows.fnExactBoxOfRow.domain false) (Rows.fnExactBoxOfSpec.post enc Try.prog Try.f8 false true false false) := by
  refine returnsInHanded_of_change_sized (C := Try.checked) own started (by kernel_rfl) Try.func8
    (ChangeSpec.witness6 (enc := enc) (C := Try.checked) false ⟨#[], #[.int .i64 0, .slice none 0 0, .slice none 0 0], []⟩ 8 (by kernel_rfl) (by kernel_rfl) (by kernel_rfl) (by kernel_rfl)) ?_
  intro W base args ds gs before hval0 hW hcnd hsz0 _
  have hsz : (DataW.weightsEach Try.prog (Try.f8.params.toList ++ Rows.fnExactBoxOfSpec.plain.varTypes Try.prog) (ds ++ gs)).all (· ≤ reachBytes) = true := hsz0
  have hval : ∀ (j : Nat) t v, Try.f8.params[j]? = some t → args[j]? = some v → Value.okWide Try.prog W .any base t v := hval0
  have hW' := hW
  obtain ⟨p, q, hA0, hV, rfl, hfz, hnd⟩ := hW
  have hA : DataW.TrodAll enc Try.prog W 0 (fun _ => true) true Try.f8.params.toList args.toList ds p := hA0
  rw [Try.params8] at hA hval hsz
  obtain ⟨v0, vs0, d0, ds0, p0, q0, hargs, rfl, rfl, h0, r0⟩ := trodAll_cons hA
  obtain ⟨v1, vs1, d1, ds1, p1, q1, rfl, rfl, rfl, h1, r1⟩ := trodAll_cons r0
  obtain ⟨v2, vs2, d2, ds2, p2, q2, rfl, rfl, rfl, h2, r2⟩ := trodAll_cons r1
  obtain ⟨rfl, rfl, rfl⟩ := trodAll_nil r2
  obtain rfl : args = #[v0, v1, v2] := by cases args; simp_all
  obtain ⟨rfl, rfl⟩ := trodVars_none hV
  have k0 := h0
  have lt0 : ∀ x ∈ p0, x.block < W.heap.size := by obtain ⟨m, hm⟩ := k0; exact DataW.trod_lt m _ _ _ hm
  obtain ⟨a0, rfl, rfl, rfl, w0⟩ := open_int Try.underlying3 (hval 0 3 v0 rfl rfl) h0
  have k1 := h1
  have lt1 : ∀ x ∈ p1, x.block < W.heap.size := by obtain ⟨m, hm⟩ := k1; exact DataW.trod_lt m _ _ _ hm
  obtain ⟨l1, A1, c1, w1, e1, hc1, hr1⟩ := slice_of Try.underlying22 op22 (hval 1 22 v1 rfl rfl) h1
  subst e1
  have z1 := slice_sized (b := 8) Try.underlying22 h1 hsz (j := 1) rfl rfl (by kernel_rfl)
  have k2 := h2
  have lt2 : ∀ x ∈ p2, x.block < W.heap.size := by obtain ⟨m, hm⟩ := k2; exact DataW.trod_lt m _ _ _ hm
  obtain ⟨l2, A2, c2, w2, e2, hc2, hr2⟩ := slice_of Try.underlying22 op22 (hval 2 22 v2 rfl rfl) h2
  subst e2
  have z2 := slice_sized (b := 8) Try.underlying22 h2 hsz (j := 2) rfl rfl (by kernel_rfl)
  clear hA0 hval0 hsz0 hsz hcnd hfz hnd hval
  obtain ⟨k, h⟩ := Pure.FnExactBoxOf a0 l1 l2 w0 w1 w2 z1 z2
  refine (laws_FnExactBoxOf.calls k a0 _ _ l1 _ _ l2 true W hr1 hc1 hr2 hc2 h).mono fun e W' ⟨he, hd⟩ => ?_
  subst he
  have bel : Below W.heap.size W W' := hd
  exact ⟨_, rfl, _, _, _, [], _, [], hW', trodAll_mk1 (shut_bool Try.underlying4 _), (trodAll_cons_mk (shut_int Try.underlying3 w0) (trodAll_cons_mk (Below.trod laidOut (by kernel_rfl) (of_decide_eq_true (by kernel_rfl)) k1 bel lt1) (trodAll_cons_mk (Below.trod laidOut (by kernel_rfl) (of_decide_eq_true (by kernel_rfl)) k2 bel lt2) trodAll_mk0))), rfl, bel.frame _, fun h => by cases h⟩
theorem over : Rows.fnExactBoxOfRow.holds Try.pinned (OpenSpec.ofChange Rows.fnExactBoxOfSpec) :=
  OpenClaim.holds_of_wide 8 Try.f8 rfl rfl rfl rfl rfl rfl rfl ⟨rfl, rfl, rfl, rfl, rfl⟩ rfl rfl rfl rfl rfl (by kernel_rfl) Try.func8 (by kernel_rfl)
    (of_decide_eq_true (by kernel_rfl)) (by unfold Func.isWrapper; first | (rw [if_pos (by decide +kernel)]; kernel_rfl) | (rw [if_neg (by decide +kernel)]; exact ⟨rfl, rfl⟩))
    (fun os started H enc _ => lifted os started H enc)
theorem proved : Rows.FnExactBoxOfSaid := over
end Go.Proofs.Ytgaoniapddpaaaa.fnExactBoxOf
namespace Go.Proofs.Ytgaoniapddpaaaa
/-- The row, under a short name, for the claim. -/
theorem fnExactBoxOf_holds : Rows.FnExactBoxOfSaid := fnExactBoxOf.proved
#print axioms fnExactBoxOf_holds
end Go.Proofs.Ytgaoniapddpaaaa
