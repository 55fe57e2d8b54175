-- Written by a program of this session (wip/myprint.py: the kit's print with changes): not by print.sh itself.
import Derived.Test.YtnnimbbffbfhoaaRows
import Derived.Test.YtnnimbbffbfhoaaPFnExactMostAssignedx10
import Derived.Test.YtnnimbbffbfhoaaPureFnExactMostAssigned
import Derived.Test.YtnnimbbffbfhoaaOpen
import Derived.WalkKit
import Derived.ProofKit
import Derived.OpenShut
import Derived.ShutString
import Derived.ChangeOld
import Derived.Below
import Derived.SizedLaws
import Derived.Carry
import Derived.Lib.SmallJoins
namespace Go.Proofs.Ytnnimbbffbfhoaa.fnExactMostAssigned
open Go.ChangeShapes Go.WideShapes Go.ChangeAt Go.RowKit Go.Proofs.YtnnimbbffbfhoaaW.PrintWords
open Go.ChangeMaps (open_string shut_string)
set_option linter.unusedVariables false
theorem own : ownKnob Try.prog.godebug = none := by kernel_rfl
theorem laidOut : laidOutB Try.prog = true := by kernel_rfl
set_option maxRecDepth 100000 in
theorem lifted (os : Os) (started : os.Started) (H : Type) (enc : TypeId × Value → H) :
    ReturnsInHanded {} Try.checked os 7 .any (Rows.fnExactMostAssignedSpec.pre6 enc Try.prog Try.f7 Rows.fnExactMostAssignedRow.domain false) (Rows.fnExactMostAssignedSpec.post enc Try.prog Try.f7 false true false false) := by
  refine returnsInHanded_of_change_sized (C := Try.checked) own started (by kernel_rfl) Try.func7
    (ChangeSpec.witness6 (enc := enc) (C := Try.checked) false ⟨#[], #[.slice none 0 0, .slice none 0 0], []⟩ 8 (by kernel_rfl) (by kernel_rfl) (by kernel_rfl) (by kernel_rfl)) ?_
  intro W base args ds gs before hval0 hW hcnd hsz0 _
  have hsz : (DataW.weightsEach Try.prog (Try.f7.params.toList ++ Rows.fnExactMostAssignedSpec.plain.varTypes Try.prog) (ds ++ gs)).all (· ≤ reachBytes) = true := hsz0
  have hval : ∀ (j : Nat) t v, Try.f7.params[j]? = some t → args[j]? = some v → Value.okWide Try.prog W .any base t v := hval0
  have hW' := hW
  obtain ⟨p, q, hA0, hV, rfl, hfz, hnd⟩ := hW
  have hA : DataW.TrodAll enc Try.prog W 0 (fun _ => true) true Try.f7.params.toList args.toList ds p := hA0
  rw [Try.params7] at hA hval hsz
  obtain ⟨v0, vs0, d0, ds0, p0, q0, hargs, rfl, rfl, h0, r0⟩ := trodAll_cons hA
  obtain ⟨v1, vs1, d1, ds1, p1, q1, rfl, rfl, rfl, h1, r1⟩ := trodAll_cons r0
  obtain ⟨rfl, rfl, rfl⟩ := trodAll_nil r1
  obtain rfl : args = #[v0, v1] := by cases args; simp_all
  obtain ⟨rfl, rfl⟩ := trodVars_none hV
  have k0 := h0
  have lt0 : ∀ x ∈ p0, x.block < W.heap.size := by obtain ⟨m, hm⟩ := k0; exact DataW.trod_lt m _ _ _ hm
  obtain ⟨a0_, len0_, cap0_, rfl⟩ := okWide_slice Try.underlying22 (hval 0 22 v0 rfl rfl)
  obtain ⟨fu0, hf0⟩ := h0
  simp only [Value.cells] at hf0
  obtain ⟨A0, c0, l0, hv0, hc0, hr0, w0'⟩ := Open.rows3 PFnExactMostAssigned.k82 (fun a b c' => (⟨a, b, c'⟩ : PFnExactMostAssigned.S82)) rfl (fun w a b c' => PFnExactMostAssigned.k82_mk w _) Try.underlying22 Try.underlying82 (by kernel_rfl) (by kernel_rfl) Try.underlying3 Try.underlying3 Try.underlying3 hf0
  have w0 : ∀ y ∈ l0, (Lit.int .i64 y.f0).wf = true ∧ (Lit.int .i64 y.f1).wf = true ∧ (Lit.int .i64 y.f2).wf = true := fun y hy => by obtain ⟨a, b, c', rfl, hh⟩ := w0' y hy; exact hh
  have m0 : l0.length ≤ 9223372036854775807 := hr0.2.1
  injection hv0 with e1_0 e2_0 e3_0; replace e1_0 := e1_0.symm; replace e3_0 := e3_0.symm; subst e1_0; subst e2_0; subst e3_0
  have k1 := h1
  have lt1 : ∀ x ∈ p1, x.block < W.heap.size := by obtain ⟨m, hm⟩ := k1; exact DataW.trod_lt m _ _ _ hm
  obtain ⟨a1_, len1_, cap1_, rfl⟩ := okWide_slice Try.underlying29 (hval 1 29 v1 rfl rfl)
  obtain ⟨fu1, hf1⟩ := h1
  simp only [Value.cells] at hf1
  obtain ⟨A1, c1, l1, hv1, hc1, hr1, w1'⟩ := Open.rows2 PFnExactMostAssigned.k88 (fun a b => (⟨a, b⟩ : PFnExactMostAssigned.S88)) rfl (fun w a b => PFnExactMostAssigned.k88_mk w _) Try.underlying29 Try.underlying88 (by kernel_rfl) (by kernel_rfl) Try.underlying3 Try.underlying3 hf1
  have w1 : ∀ y ∈ l1, (Lit.int .i64 y.f0).wf = true ∧ (Lit.int .i64 y.f1).wf = true := fun y hy => by obtain ⟨a, b, rfl, hh⟩ := w1' y hy; exact hh
  have m1 : l1.length ≤ 9223372036854775807 := hr1.2.1
  injection hv1 with e1_1 e2_1 e3_1; replace e1_1 := e1_1.symm; replace e3_1 := e3_1.symm; subst e1_1; subst e2_1; subst e3_1
  clear hA0 hval0 hsz0 hsz
  obtain ⟨kk, hpure⟩ := Pure.FnExactMostAssigned l0 l1 m0 w0 m1 w1
  refine (PFnExactMostAssigned.laws_FnExactMostAssigned.calls kk A0 c0 l0 A1 c1 l1 W hr0 hc0 hr1 hc1 hpure).mono fun e W' ⟨he, bel⟩ => ?_
  subst he
  exact ⟨_, rfl, _, _, _, [], _, [], hW', trodAll_mk1 (shut_bool Try.underlying4 _), (trodAll_cons_mk (Below.trod laidOut (by kernel_rfl) (of_decide_eq_true (by kernel_rfl)) k0 bel lt0) (trodAll_cons_mk (Below.trod laidOut (by kernel_rfl) (of_decide_eq_true (by kernel_rfl)) k1 bel lt1) trodAll_mk0)), rfl, bel.frame _, fun h => by cases h⟩
theorem over : Rows.fnExactMostAssignedRow.holds Try.pinned (OpenSpec.ofChange Rows.fnExactMostAssignedSpec) :=
  OpenClaim.holds_of_wide 7 Try.f7 rfl rfl rfl rfl rfl rfl rfl ⟨rfl, rfl, rfl, rfl, rfl⟩ rfl rfl rfl rfl rfl (by kernel_rfl) Try.func7 (by kernel_rfl)
    (of_decide_eq_true (by kernel_rfl)) (by unfold Func.isWrapper; first | (rw [if_pos (by decide +kernel)]; kernel_rfl) | (rw [if_neg (by decide +kernel)]; exact ⟨rfl, rfl⟩))
    (fun os started H enc _ => lifted os started H enc)
theorem proved : Rows.FnExactMostAssignedSaid := over
#print axioms proved
end Go.Proofs.Ytnnimbbffbfhoaa.fnExactMostAssigned
namespace Go.Proofs.Ytnnimbbffbfhoaa
/-- The row, under a short name, for the claim. -/
theorem fnExactMostAssigned_holds : Rows.FnExactMostAssignedSaid := fnExactMostAssigned.proved
end Go.Proofs.Ytnnimbbffbfhoaa
