import Derived.Test.YtemjjknnelngcaaRows
import Derived.Test.YtemjjknnelngcaaQIsSyemRw
import Derived.Test.YtemjjknnelngcaaQIsSyemPDx17
import Derived.Test.YtemjjknnelngcaaQIsSyemPureFnExactIsSystem
import Derived.WalkKit
import Derived.ProofKit
import Derived.OpenShut
import Derived.ShutString
import Derived.ChangeOld
import Derived.Below
import Derived.SizedLaws
import Derived.Carry
/- FnExactIsSystem: for every input of its kinds the law FnExactIsSystem answers true, and what it was handed reads as before; over the program as it lies, with no condition. -/
namespace Go.Proofs.Ytemjjknnelngcaa.fnExactIsSystem
open Go.ChangeShapes Go.WideShapes Go.ChangeAt Go.RowKit Go.Proofs.YtemjjknnelngcaaW.PrintWords Go.Proofs.YtemjjknnelngcaaR
open Go.ChangeMaps (open_string shut_string)
open Go.Proofs.Ytemjjknnelngcaa.PD
theorem own : ownKnob Try.prog.godebug = none := by kernel_rfl
theorem laidOut : laidOutB Try.prog = true := by kernel_rfl
theorem op3 : Opens Try.prog 3 (Kd.int .i64) (fun (x : Int) => (Lit.int .i64 x).wf = true) := opens_int Try.underlying3
theorem op42s : Opens Try.prog 42 k42 (fun (x : S42) => ((Lit.int .i64 x.f0).wf = true ∧ ((Lit.int .i64 x.f1).wf = true ∧ ((Lit.int .i64 x.f2).wf = true ∧ (Lit.int .i64 x.f3).wf = true)))) := by
  refine opens_iso (G := fun (x : Int × Int × Int × Int) => (Lit.int .i64 x.1).wf = true ∧ (Lit.int .i64 x.2.1).wf = true ∧ (Lit.int .i64 x.2.2.1).wf = true ∧ (Lit.int .i64 x.2.2.2).wf = true) ?_ _ (fun p => ⟨p.1, p.2.1, p.2.2.1, p.2.2.2⟩) (fun _ => rfl)
  refine opens_struct Try.underlying42 (by kernel_rfl) ?_
  refine fields_cons (G := fun (x : Int) => (Lit.int .i64 x).wf = true) (G1 := fun (x : Int × Int × Int) => (Lit.int .i64 x.1).wf = true ∧ (Lit.int .i64 x.2.1).wf = true ∧ (Lit.int .i64 x.2.2).wf = true) (i1 := 1) op3 (by kernel_rfl) ?_ rfl rfl (by simp)
  refine fields_cons (G := fun (x : Int) => (Lit.int .i64 x).wf = true) (G1 := fun (x : Int × Int) => (Lit.int .i64 x.1).wf = true ∧ (Lit.int .i64 x.2).wf = true) (i1 := 2) op3 (by kernel_rfl) ?_ rfl rfl (by simp)
  refine fields_cons (G := fun (x : Int) => (Lit.int .i64 x).wf = true) (G1 := fun (x : Int) => (Lit.int .i64 x).wf = true) (i1 := 3) op3 (by kernel_rfl) ?_ rfl rfl (by simp)
  exact fields_one (G := fun (x : Int) => (Lit.int .i64 x).wf = true) op3 (by kernel_rfl)
theorem op30 : Opens Try.prog 30 (Kd.slice 42 k42) (fun (x : List (S42)) => (x.length ≤ maxLen ∧ ∀ y ∈ x, ((Lit.int .i64 y.f0).wf = true ∧ ((Lit.int .i64 y.f1).wf = true ∧ ((Lit.int .i64 y.f2).wf = true ∧ (Lit.int .i64 y.f3).wf = true))))) := opens_slice Try.underlying30 (by kernel_rfl) op42s
theorem op22 : Opens Try.prog 22 (Kd.slice 30 (Kd.slice 42 k42)) (fun (x : List (List (S42))) => (x.length ≤ maxLen ∧ ∀ y ∈ x, (y.length ≤ maxLen ∧ ∀ z ∈ y, ((Lit.int .i64 z.f0).wf = true ∧ ((Lit.int .i64 z.f1).wf = true ∧ ((Lit.int .i64 z.f2).wf = true ∧ (Lit.int .i64 z.f3).wf = true)))))) := opens_slice Try.underlying22 (by kernel_rfl) op30
set_option maxRecDepth 100000 in
theorem lifted (os : Os) (started : os.Started) (H : Type) (enc : TypeId × Value → H) :
    ReturnsInHanded {} Try.checked os 3 .any (Rows.fnExactIsSystemSpec.pre6 enc Try.prog Try.f3 Rows.fnExactIsSystemRow.domain false) (Rows.fnExactIsSystemSpec.post enc Try.prog Try.f3 false true false false) := by
  refine returnsInHanded_of_change_sized (C := Try.checked) own started (by kernel_rfl) Try.func3
    (ChangeSpec.witness6 (enc := enc) (C := Try.checked) false ⟨#[], #[.slice none 0 0], []⟩ 8 (by kernel_rfl) (by kernel_rfl) (by kernel_rfl) (by kernel_rfl)) ?_
  intro W base args ds gs before hval0 hW hcnd hsz0 _
  have hsz : (DataW.weightsEach Try.prog (Try.f3.params.toList ++ Rows.fnExactIsSystemSpec.plain.varTypes Try.prog) (ds ++ gs)).all (· ≤ reachBytes) = true := hsz0
  have hval : ∀ (j : Nat) t v, Try.f3.params[j]? = some t → args[j]? = some v → Value.okWide Try.prog W .any base t v := hval0
  have hW' := hW
  obtain ⟨p, q, hA0, hV, rfl, hfz, hnd⟩ := hW
  have hA : DataW.TrodAll enc Try.prog W 0 (fun _ => true) true Try.f3.params.toList args.toList ds p := hA0
  rw [Try.params3] at hA hval hsz
  obtain ⟨v0, vs0, d0, ds0, p0, q0, hargs, rfl, rfl, h0, r0⟩ := trodAll_cons hA
  obtain ⟨rfl, rfl, rfl⟩ := trodAll_nil r0
  obtain rfl : args = #[v0] := by cases args; simp_all
  obtain ⟨rfl, rfl⟩ := trodVars_none hV
  have k0 := h0
  have lt0 : ∀ x ∈ p0, x.block < W.heap.size := by obtain ⟨m, hm⟩ := k0; exact DataW.trod_lt m _ _ _ hm
  obtain ⟨l0, A0, c0, w0, e0, hc0, hr0⟩ := slice_of Try.underlying22 op22 (hval 0 22 v0 rfl rfl) h0
  subst e0
  clear hA0 hval0 hsz0 hsz hcnd hfz hnd hval
  obtain ⟨k, h⟩ := Pure.FnExactIsSystem l0 w0
  refine (laws_FnExactIsSystem.calls k _ _ l0 true W hr0 hc0 h).mono fun e W' ⟨he, hd⟩ => ?_
  subst he
  have bel : Below W.heap.size W W' := hd
  exact ⟨_, rfl, _, _, _, [], _, [], hW', trodAll_mk1 (shut_bool Try.underlying4 _), (trodAll_cons_mk (Below.trod laidOut (by kernel_rfl) (of_decide_eq_true (by kernel_rfl)) k0 bel lt0) trodAll_mk0), rfl, bel.frame _, fun h => by cases h⟩
theorem over : Rows.fnExactIsSystemRow.holds Try.pinned (OpenSpec.ofChange Rows.fnExactIsSystemSpec) :=
  OpenClaim.holds_of_wide 3 Try.f3 rfl rfl rfl rfl rfl rfl rfl ⟨rfl, rfl, rfl, rfl, rfl⟩ rfl rfl rfl rfl rfl (by kernel_rfl) Try.func3 (by kernel_rfl)
    (of_decide_eq_true (by kernel_rfl)) (by unfold Func.isWrapper; first | (rw [if_pos (by decide +kernel)]; kernel_rfl) | (rw [if_neg (by decide +kernel)]; exact ⟨rfl, rfl⟩))
    (fun os started H enc _ => lifted os started H enc)
theorem proved : Rows.FnExactIsSystemSaid := over
end Go.Proofs.Ytemjjknnelngcaa.fnExactIsSystem
namespace Go.Proofs.Ytemjjknnelngcaa
/-- The row, under a short name, for the claim. -/
theorem fnExactIsSystem_holds : Rows.FnExactIsSystemSaid := fnExactIsSystem.proved
#print axioms fnExactIsSystem_holds
end Go.Proofs.Ytemjjknnelngcaa
