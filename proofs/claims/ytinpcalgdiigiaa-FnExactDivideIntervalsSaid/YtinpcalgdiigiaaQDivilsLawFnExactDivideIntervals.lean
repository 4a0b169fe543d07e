import Derived.Test.YtinpcalgdiigiaaRows
import Derived.Test.YtinpcalgdiigiaaQDivilsRw
import Derived.Test.YtinpcalgdiigiaaQDivilsPDx87
import Derived.Test.YtinpcalgdiigiaaQDivilsPureFnExactDivideIntervals
import Derived.WalkKit
import Derived.ProofKit
import Derived.OpenShut
import Derived.ShutString
import Derived.ChangeOld
import Derived.Below
import Derived.SizedLaws
import Derived.Carry
/- FnExactDivideIntervals: for every input of its kinds the law FnExactDivideIntervals answers true, and what it was handed reads as before; over the program as it lies, with no condition. -/
namespace Go.Proofs.Ytinpcalgdiigiaa.fnExactDivideIntervals
open Go.ChangeShapes Go.WideShapes Go.ChangeAt Go.RowKit Go.Proofs.YtinpcalgdiigiaaW.PrintWords Go.Proofs.YtinpcalgdiigiaaR
open Go.ChangeMaps (open_string shut_string)
open Go.Proofs.Ytinpcalgdiigiaa.PD
theorem own : ownKnob Try.prog.godebug = none := by kernel_rfl
theorem laidOut : laidOutB Try.prog = true := by kernel_rfl
theorem op3 : Opens Try.prog 3 (Kd.int .i64) (fun (x : Int) => (Lit.int .i64 x).wf = true) := opens_int Try.underlying3
theorem op23 : Opens Try.prog 23 (Kd.pair (Kd.int .i64) (Kd.int .i64)) (fun (x : (Int × Int)) => ((Lit.int .i64 x.1).wf = true ∧ (Lit.int .i64 x.2).wf = true)) := by
  refine opens_struct Try.underlying23 (by kernel_rfl) ?_
  refine fields_cons (G := fun (x : Int) => (Lit.int .i64 x).wf = true) (G1 := fun (x : Int) => (Lit.int .i64 x).wf = true) (i1 := 1) op3 (by kernel_rfl) ?_ rfl rfl (by simp)
  exact fields_one (G := fun (x : Int) => (Lit.int .i64 x).wf = true) op3 (by kernel_rfl)
theorem op25 : Opens Try.prog 25 (Kd.pair (Kd.pair (Kd.int .i64) (Kd.int .i64)) (Kd.pair (Kd.int .i64) (Kd.int .i64))) (fun (x : ((Int × Int) × (Int × Int))) => (((Lit.int .i64 x.1.1).wf = true ∧ (Lit.int .i64 x.1.2).wf = true) ∧ ((Lit.int .i64 x.2.1).wf = true ∧ (Lit.int .i64 x.2.2).wf = true))) := by
  refine opens_struct Try.underlying25 (by kernel_rfl) ?_
  refine fields_cons (G := fun (x : (Int × Int)) => ((Lit.int .i64 x.1).wf = true ∧ (Lit.int .i64 x.2).wf = true)) (G1 := fun (x : (Int × Int)) => ((Lit.int .i64 x.1).wf = true ∧ (Lit.int .i64 x.2).wf = true)) (i1 := 2) op23 (by kernel_rfl) ?_ rfl rfl (by simp)
  exact fields_one (G := fun (x : (Int × Int)) => ((Lit.int .i64 x.1).wf = true ∧ (Lit.int .i64 x.2).wf = true)) op23 (by kernel_rfl)
set_option maxRecDepth 100000 in
theorem lifted (os : Os) (started : os.Started) (H : Type) (enc : TypeId × Value → H) :
    ReturnsInHanded {} Try.checked os 14 .any (Rows.fnExactDivideIntervalsSpec.pre6 enc Try.prog Try.f14 Rows.fnExactDivideIntervalsRow.domain false) (Rows.fnExactDivideIntervalsSpec.post enc Try.prog Try.f14 false true false false) := by
  refine returnsInHanded_of_change_sized (C := Try.checked) own started (by kernel_rfl) Try.func14
    (ChangeSpec.witness6 (enc := enc) (C := Try.checked) false ⟨#[], #[.agg #[(.int .i64 0), (.int .i64 0), (.int .i64 0), (.int .i64 0)], .agg #[(.int .i64 0), (.int .i64 0), (.int .i64 0), (.int .i64 0)]], []⟩ 8 (by kernel_rfl) (by kernel_rfl) (by kernel_rfl) (by kernel_rfl)) ?_
  intro W base args ds gs before hval0 hW hcnd hsz0 _
  have hsz : (DataW.weightsEach Try.prog (Try.f14.params.toList ++ Rows.fnExactDivideIntervalsSpec.plain.varTypes Try.prog) (ds ++ gs)).all (· ≤ reachBytes) = true := hsz0
  have hval : ∀ (j : Nat) t v, Try.f14.params[j]? = some t → args[j]? = some v → Value.okWide Try.prog W .any base t v := hval0
  have hW' := hW
  obtain ⟨p, q, hA0, hV, rfl, hfz, hnd⟩ := hW
  have hA : DataW.TrodAll enc Try.prog W 0 (fun _ => true) true Try.f14.params.toList args.toList ds p := hA0
  rw [Try.params14] at hA hval hsz
  obtain ⟨v0, vs0, d0, ds0, p0, q0, hargs, rfl, rfl, h0, r0⟩ := trodAll_cons hA
  obtain ⟨v1, vs1, d1, ds1, p1, q1, rfl, rfl, rfl, h1, r1⟩ := trodAll_cons r0
  obtain ⟨rfl, rfl, rfl⟩ := trodAll_nil r1
  obtain rfl : args = #[v0, v1] := by cases args; simp_all
  obtain ⟨rfl, rfl⟩ := trodVars_none hV
  have k0 := h0
  have lt0 : ∀ x ∈ p0, x.block < W.heap.size := by obtain ⟨m, hm⟩ := k0; exact DataW.trod_lt m _ _ _ hm
  obtain ⟨⟨⟨a0_0, a0_1⟩, ⟨a0_2, a0_3⟩⟩, cs0, ⟨⟨w0_0, w0_1⟩, ⟨w0_2, w0_3⟩⟩, K0, e0⟩ := agg_of Try.underlying25 op25 (hval 0 25 v0 rfl rfl) h0
  obtain ⟨_, _, rfl, ⟨_, _, rfl, rfl, rfl⟩, ⟨_, _, rfl, rfl, rfl⟩⟩ := K0
  have e0' : v0 = .agg #[.int .i64 a0_0, .int .i64 a0_1, .int .i64 a0_2, .int .i64 a0_3] := e0
  subst e0'
  have k1 := h1
  have lt1 : ∀ x ∈ p1, x.block < W.heap.size := by obtain ⟨m, hm⟩ := k1; exact DataW.trod_lt m _ _ _ hm
  obtain ⟨⟨⟨a1_0, a1_1⟩, ⟨a1_2, a1_3⟩⟩, cs1, ⟨⟨w1_0, w1_1⟩, ⟨w1_2, w1_3⟩⟩, K1, e1⟩ := agg_of Try.underlying25 op25 (hval 1 25 v1 rfl rfl) h1
  obtain ⟨_, _, rfl, ⟨_, _, rfl, rfl, rfl⟩, ⟨_, _, rfl, rfl, rfl⟩⟩ := K1
  have e1' : v1 = .agg #[.int .i64 a1_0, .int .i64 a1_1, .int .i64 a1_2, .int .i64 a1_3] := e1
  subst e1'
  clear hA0 hval0 hsz0 hsz hcnd hfz hnd hval
  obtain ⟨k, h⟩ := Pure.FnExactDivideIntervals a0_0 a0_1 a0_2 a0_3 a1_0 a1_1 a1_2 a1_3 w0_0 w0_1 w0_2 w0_3 w1_0 w1_1 w1_2 w1_3
  refine (laws_FnExactDivideIntervals.calls k a0_0 a0_1 a0_2 a0_3 a1_0 a1_1 a1_2 a1_3 true W  h).mono fun e W' ⟨he, hd⟩ => ?_
  subst he
  have bel : Below W.heap.size W W' := hd
  exact ⟨_, rfl, _, _, _, [], _, [], hW', trodAll_mk1 (shut_bool Try.underlying4 _), (trodAll_cons_mk (Below.trod laidOut (by kernel_rfl) (of_decide_eq_true (by kernel_rfl)) k0 bel lt0) (trodAll_cons_mk (Below.trod laidOut (by kernel_rfl) (of_decide_eq_true (by kernel_rfl)) k1 bel lt1) trodAll_mk0)), rfl, bel.frame _, fun h => by cases h⟩
theorem over : Rows.fnExactDivideIntervalsRow.holds Try.pinned (OpenSpec.ofChange Rows.fnExactDivideIntervalsSpec) :=
  OpenClaim.holds_of_wide 14 Try.f14 rfl rfl rfl rfl rfl rfl rfl ⟨rfl, rfl, rfl, rfl, rfl⟩ rfl rfl rfl rfl rfl (by kernel_rfl) Try.func14 (by kernel_rfl)
    (of_decide_eq_true (by kernel_rfl)) (by unfold Func.isWrapper; first | (rw [if_pos (by decide +kernel)]; kernel_rfl) | (rw [if_neg (by decide +kernel)]; exact ⟨rfl, rfl⟩))
    (fun os started H enc _ => lifted os started H enc)
theorem proved : Rows.FnExactDivideIntervalsSaid := over
end Go.Proofs.Ytinpcalgdiigiaa.fnExactDivideIntervals
namespace Go.Proofs.Ytinpcalgdiigiaa
/-- The row, under a short name, for the claim. -/
theorem fnExactDivideIntervals_holds : Rows.FnExactDivideIntervalsSaid := fnExactDivideIntervals.proved
#print axioms fnExactDivideIntervals_holds
end Go.Proofs.Ytinpcalgdiigiaa
