import Derived.Test.YtfnmppeoleicbaaRows
import Derived.Test.YtfnmppeoleicbaaQDerilyRw
import Derived.Test.YtfnmppeoleicbaaQDerilyPDx19
import Derived.Test.YtfnmppeoleicbaaQDerilyPureFnExactDerivePoly
import Derived.WalkKit
import Derived.ProofKit
import Derived.OpenShut
import Derived.ShutString
import Derived.ChangeOld
import Derived.Below
import Derived.SizedLaws
import Derived.Carry
/- FnExactDerivePoly: for every input of its kinds the law FnExactDerivePoly answers true, and what it was handed reads as before; over the program as it lies, with no condition. -/
namespace Go.Proofs.Ytfnmppeoleicbaa.fnExactDerivePoly
open Go.ChangeShapes Go.WideShapes Go.ChangeAt Go.RowKit Go.Proofs.YtfnmppeoleicbaaW.PrintWords Go.Proofs.YtfnmppeoleicbaaR
open Go.ChangeMaps (open_string shut_string)
open Go.Proofs.Ytfnmppeoleicbaa.PD
theorem own : ownKnob Try.prog.godebug = none := by kernel_rfl
theorem laidOut : laidOutB Try.prog = true := by kernel_rfl
theorem op3 : Opens Try.prog 3 (Kd.int .i64) (fun (x : Int) => (Lit.int .i64 x).wf = true) := opens_int Try.underlying3
theorem op57s : Opens Try.prog 57 k57 (fun (x : S57) => ((Lit.int .i64 x.f0).wf = true ∧ ((Lit.int .i64 x.f1).wf = true ∧ ((Lit.int .i64 x.f2).wf = true ∧ (Lit.int .i64 x.f3).wf = true)))) := by
  refine opens_iso (G := fun (x : Int × Int × Int × Int) => (Lit.int .i64 x.1).wf = true ∧ (Lit.int .i64 x.2.1).wf = true ∧ (Lit.int .i64 x.2.2.1).wf = true ∧ (Lit.int .i64 x.2.2.2).wf = true) ?_ _ (fun p => ⟨p.1, p.2.1, p.2.2.1, p.2.2.2⟩) (fun _ => rfl)
  refine opens_struct Try.underlying57 (by kernel_rfl) ?_
  refine fields_cons (G := fun (x : Int) => (Lit.int .i64 x).wf = true) (G1 := fun (x : Int × Int × Int) => (Lit.int .i64 x.1).wf = true ∧ (Lit.int .i64 x.2.1).wf = true ∧ (Lit.int .i64 x.2.2).wf = true) (i1 := 1) op3 (by kernel_rfl) ?_ rfl rfl (by simp)
  refine fields_cons (G := fun (x : Int) => (Lit.int .i64 x).wf = true) (G1 := fun (x : Int × Int) => (Lit.int .i64 x.1).wf = true ∧ (Lit.int .i64 x.2).wf = true) (i1 := 2) op3 (by kernel_rfl) ?_ rfl rfl (by simp)
  refine fields_cons (G := fun (x : Int) => (Lit.int .i64 x).wf = true) (G1 := fun (x : Int) => (Lit.int .i64 x).wf = true) (i1 := 3) op3 (by kernel_rfl) ?_ rfl rfl (by simp)
  exact fields_one (G := fun (x : Int) => (Lit.int .i64 x).wf = true) op3 (by kernel_rfl)
theorem op22 : Opens Try.prog 22 (Kd.slice 57 k57) (fun (x : List (S57)) => (x.length ≤ maxLen ∧ ∀ y ∈ x, ((Lit.int .i64 y.f0).wf = true ∧ ((Lit.int .i64 y.f1).wf = true ∧ ((Lit.int .i64 y.f2).wf = true ∧ (Lit.int .i64 y.f3).wf = true))))) := opens_slice Try.underlying22 (by kernel_rfl) op57s
set_option maxRecDepth 100000 in
theorem lifted (os : Os) (started : os.Started) (H : Type) (enc : TypeId × Value → H) :
    ReturnsInHanded {} Try.checked os 14 .any (Rows.fnExactDerivePolySpec.pre6 enc Try.prog Try.f14 Rows.fnExactDerivePolyRow.domain false) (Rows.fnExactDerivePolySpec.post enc Try.prog Try.f14 false true false false) := by
  refine returnsInHanded_of_change_sized (C := Try.checked) own started (by kernel_rfl) Try.func14
    (ChangeSpec.witness6 (enc := enc) (C := Try.checked) false ⟨#[], #[.slice none 0 0, .int .i64 0], []⟩ 8 (by kernel_rfl) (by kernel_rfl) (by kernel_rfl) (by kernel_rfl)) ?_
  intro W base args ds gs before hval0 hW hcnd hsz0 _
  have hsz : (DataW.weightsEach Try.prog (Try.f14.params.toList ++ Rows.fnExactDerivePolySpec.plain.varTypes Try.prog) (ds ++ gs)).all (· ≤ reachBytes) = true := hsz0
  have hval : ∀ (j : Nat) t v, Try.f14.params[j]? = some t → args[j]? = some v → Value.okWide Try.prog W .any base t v := hval0
  have hW' := hW
  obtain ⟨p, q, hA0, hV, rfl, hfz, hnd⟩ := hW
  have hA : DataW.TrodAll enc Try.prog W 0 (fun _ => true) true Try.f14.params.toList args.toList ds p := hA0
  rw [Try.params14] at hA hval hsz
  obtain ⟨v0, vs0, d0, ds0, p0, q0, hargs, rfl, rfl, h0, r0⟩ := trodAll_cons hA
  obtain ⟨v1, vs1, d1, ds1, p1, q1, rfl, rfl, rfl, h1, r1⟩ := trodAll_cons r0
  obtain ⟨rfl, rfl, rfl⟩ := trodAll_nil r1
  obtain rfl : args = #[v0, v1] := by cases args; simp_all
  obtain ⟨rfl, rfl⟩ := trodVars_none hV
  have k0 := h0
  have lt0 : ∀ x ∈ p0, x.block < W.heap.size := by obtain ⟨m, hm⟩ := k0; exact DataW.trod_lt m _ _ _ hm
  obtain ⟨l0, A0, c0, w0, e0, hc0, hr0⟩ := slice_of Try.underlying22 op22 (hval 0 22 v0 rfl rfl) h0
  subst e0
  have k1 := h1
  have lt1 : ∀ x ∈ p1, x.block < W.heap.size := by obtain ⟨m, hm⟩ := k1; exact DataW.trod_lt m _ _ _ hm
  obtain ⟨a1, rfl, rfl, rfl, w1⟩ := open_int Try.underlying3 (hval 1 3 v1 rfl rfl) h1
  clear hA0 hval0 hsz0 hsz hcnd hfz hnd hval
  obtain ⟨k, h⟩ := Pure.FnExactDerivePoly l0 a1 w0 w1
  refine (laws_FnExactDerivePoly.calls k _ _ l0 a1 true W hr0 hc0 h).mono fun e W' ⟨he, hd⟩ => ?_
  subst he
  have bel : Below W.heap.size W W' := hd
  exact ⟨_, rfl, _, _, _, [], _, [], hW', trodAll_mk1 (shut_bool Try.underlying4 _), (trodAll_cons_mk (Below.trod laidOut (by kernel_rfl) (of_decide_eq_true (by kernel_rfl)) k0 bel lt0) (trodAll_cons_mk (shut_int Try.underlying3 w1) trodAll_mk0)), rfl, bel.frame _, fun h => by cases h⟩
theorem over : Rows.fnExactDerivePolyRow.holds Try.pinned (OpenSpec.ofChange Rows.fnExactDerivePolySpec) :=
  OpenClaim.holds_of_wide 14 Try.f14 rfl rfl rfl rfl rfl rfl rfl ⟨rfl, rfl, rfl, rfl, rfl⟩ rfl rfl rfl rfl rfl (by kernel_rfl) Try.func14 (by kernel_rfl)
    (of_decide_eq_true (by kernel_rfl)) (by unfold Func.isWrapper; first | (rw [if_pos (by decide +kernel)]; kernel_rfl) | (rw [if_neg (by decide +kernel)]; exact ⟨rfl, rfl⟩))
    (fun os started H enc _ => lifted os started H enc)
theorem proved : Rows.FnExactDerivePolySaid := over
end Go.Proofs.Ytfnmppeoleicbaa.fnExactDerivePoly
namespace Go.Proofs.Ytfnmppeoleicbaa
/-- The row, under a short name, for the claim. -/
theorem fnExactDerivePoly_holds : Rows.FnExactDerivePolySaid := fnExactDerivePoly.proved
#print axioms fnExactDerivePoly_holds
end Go.Proofs.Ytfnmppeoleicbaa
