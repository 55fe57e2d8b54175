-- Written by a program of this session (wip/myprint.py: the kit's print with changes): not by print.sh itself.
import Derived.Test.YtnnimbbffbfhoaaRows
import Derived.Test.YtnnimbbffbfhoaaPFnExactSightsOkx5
import Derived.Test.YtnnimbbffbfhoaaPureFnExactSightsOk
import Derived.Test.YtnnimbbffbfhoaaOpen
import Derived.WalkKit
import Derived.ProofKit
import Derived.OpenShut
import Derived.ShutString
import Derived.ChangeOld
import Derived.Below
import Derived.SizedLaws
import Derived.Carry
import Derived.Lib.SmallJoins
namespace Go.Proofs.Ytnnimbbffbfhoaa.fnExactSightsOk
open Go.ChangeShapes Go.WideShapes Go.ChangeAt Go.RowKit Go.Proofs.YtnnimbbffbfhoaaW.PrintWords
open Go.ChangeMaps (open_string shut_string)
set_option linter.unusedVariables false
theorem own : ownKnob Try.prog.godebug = none := by kernel_rfl
theorem laidOut : laidOutB Try.prog = true := by kernel_rfl
set_option maxRecDepth 100000 in
theorem lifted (os : Os) (started : os.Started) (H : Type) (enc : TypeId × Value → H) :
    ReturnsInHanded {} Try.checked os 4 .any (Rows.fnExactSightsOkSpec.pre6 enc Try.prog Try.f4 Rows.fnExactSightsOkRow.domain false) (Rows.fnExactSightsOkSpec.post enc Try.prog Try.f4 false true false false) := by
  refine returnsInHanded_of_change_sized (C := Try.checked) own started (by kernel_rfl) Try.func4
    (ChangeSpec.witness6 (enc := enc) (C := Try.checked) false ⟨#[], #[.slice none 0 0], []⟩ 8 (by kernel_rfl) (by kernel_rfl) (by kernel_rfl) (by kernel_rfl)) ?_
  intro W base args ds gs before hval0 hW hcnd hsz0 _
  have hsz : (DataW.weightsEach Try.prog (Try.f4.params.toList ++ Rows.fnExactSightsOkSpec.plain.varTypes Try.prog) (ds ++ gs)).all (· ≤ reachBytes) = true := hsz0
  have hval : ∀ (j : Nat) t v, Try.f4.params[j]? = some t → args[j]? = some v → Value.okWide Try.prog W .any base t v := hval0
  have hW' := hW
  obtain ⟨p, q, hA0, hV, rfl, hfz, hnd⟩ := hW
  have hA : DataW.TrodAll enc Try.prog W 0 (fun _ => true) true Try.f4.params.toList args.toList ds p := hA0
  rw [Try.params4] at hA hval hsz
  obtain ⟨v0, vs0, d0, ds0, p0, q0, hargs, rfl, rfl, h0, r0⟩ := trodAll_cons hA
  obtain ⟨rfl, rfl, rfl⟩ := trodAll_nil r0
  obtain rfl : args = #[v0] := by cases args; simp_all
  obtain ⟨rfl, rfl⟩ := trodVars_none hV
  have k0 := h0
  have lt0 : ∀ x ∈ p0, x.block < W.heap.size := by obtain ⟨m, hm⟩ := k0; exact DataW.trod_lt m _ _ _ hm
  obtain ⟨a0_, len0_, cap0_, rfl⟩ := okWide_slice Try.underlying29 (hval 0 29 v0 rfl rfl)
  obtain ⟨fu0, hf0⟩ := h0
  simp only [Value.cells] at hf0
  obtain ⟨A0, c0, l0, hv0, hc0, hr0, w0'⟩ := Open.rows2 PFnExactSightsOk.k88 (fun a b => (⟨a, b⟩ : PFnExactSightsOk.S88)) rfl (fun w a b => PFnExactSightsOk.k88_mk w _) Try.underlying29 Try.underlying88 (by kernel_rfl) (by kernel_rfl) Try.underlying3 Try.underlying3 hf0
  have w0 : ∀ y ∈ l0, (Lit.int .i64 y.f0).wf = true ∧ (Lit.int .i64 y.f1).wf = true := fun y hy => by obtain ⟨a, b, rfl, hh⟩ := w0' y hy; exact hh
  have m0 : l0.length ≤ 9223372036854775807 := hr0.2.1
  injection hv0 with e1_0 e2_0 e3_0; replace e1_0 := e1_0.symm; replace e3_0 := e3_0.symm; subst e1_0; subst e2_0; subst e3_0
  clear hA0 hval0 hsz0 hsz
  obtain ⟨kk, hpure⟩ := Pure.FnExactSightsOk l0 m0 w0
  refine (PFnExactSightsOk.laws_FnExactSightsOk.calls kk A0 c0 l0 W hr0 hc0 hpure).mono fun e W' ⟨he, bel⟩ => ?_
  subst he
  exact ⟨_, rfl, _, _, _, [], _, [], hW', trodAll_mk1 (shut_bool Try.underlying4 _), (trodAll_cons_mk (Below.trod laidOut (by kernel_rfl) (of_decide_eq_true (by kernel_rfl)) k0 bel lt0) trodAll_mk0), rfl, bel.frame _, fun h => by cases h⟩
theorem over : Rows.fnExactSightsOkRow.holds Try.pinned (OpenSpec.ofChange Rows.fnExactSightsOkSpec) :=
  OpenClaim.holds_of_wide 4 Try.f4 rfl rfl rfl rfl rfl rfl rfl ⟨rfl, rfl, rfl, rfl, rfl⟩ rfl rfl rfl rfl rfl (by kernel_rfl) Try.func4 (by kernel_rfl)
    (of_decide_eq_true (by kernel_rfl)) (by unfold Func.isWrapper; first | (rw [if_pos (by decide +kernel)]; kernel_rfl) | (rw [if_neg (by decide +kernel)]; exact ⟨rfl, rfl⟩))
    (fun os started H enc _ => lifted os started H enc)
theorem proved : Rows.FnExactSightsOkSaid := over
#print axioms proved
end Go.Proofs.Ytnnimbbffbfhoaa.fnExactSightsOk
namespace Go.Proofs.Ytnnimbbffbfhoaa
/-- The row, under a short name, for the claim. -/
theorem fnExactSightsOk_holds : Rows.FnExactSightsOkSaid := fnExactSightsOk.proved
end Go.Proofs.Ytnnimbbffbfhoaa
