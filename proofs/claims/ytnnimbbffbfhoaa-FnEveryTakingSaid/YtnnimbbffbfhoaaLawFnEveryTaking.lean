-- Written by a program of this session (wip/myprint.py: the kit's print with changes): not by print.sh itself.
import Derived.Test.YtnnimbbffbfhoaaRows
import Derived.Test.YtnnimbbffbfhoaaPFnEveryTakingx8
import Derived.Test.YtnnimbbffbfhoaaPureFnEveryTaking
import Derived.Test.YtnnimbbffbfhoaaOpen
import Derived.WalkKit
import Derived.ProofKit
import Derived.OpenShut
import Derived.ShutString
import Derived.ChangeOld
import Derived.Below
import Derived.SizedLaws
import Derived.Carry
import Derived.Lib.SmallJoins
namespace Go.Proofs.Ytnnimbbffbfhoaa.fnEveryTaking
open Go.ChangeShapes Go.WideShapes Go.ChangeAt Go.RowKit Go.Proofs.YtnnimbbffbfhoaaW.PrintWords
open Go.ChangeMaps (open_string shut_string)
set_option linter.unusedVariables false
theorem own : ownKnob Try.prog.godebug = none := by kernel_rfl
theorem laidOut : laidOutB Try.prog = true := by kernel_rfl
set_option maxRecDepth 100000 in
theorem lifted (os : Os) (started : os.Started) (H : Type) (enc : TypeId × Value → H) :
    ReturnsInHanded {} Try.checked os 8 .any (Rows.fnEveryTakingSpec.pre6 enc Try.prog Try.f8 Rows.fnEveryTakingRow.domain false) (Rows.fnEveryTakingSpec.post enc Try.prog Try.f8 false true false false) := by
  refine returnsInHanded_of_change_sized (C := Try.checked) own started (by kernel_rfl) Try.func8
    (ChangeSpec.witness6 (enc := enc) (C := Try.checked) false ⟨#[], #[.slice none 0 0, .slice none 0 0, .slice none 0 0], []⟩ 8 (by kernel_rfl) (by kernel_rfl) (by kernel_rfl) (by kernel_rfl)) ?_
  intro W base args ds gs before hval0 hW hcnd hsz0 _
  have hsz : (DataW.weightsEach Try.prog (Try.f8.params.toList ++ Rows.fnEveryTakingSpec.plain.varTypes Try.prog) (ds ++ gs)).all (· ≤ reachBytes) = true := hsz0
  have hval : ∀ (j : Nat) t v, Try.f8.params[j]? = some t → args[j]? = some v → Value.okWide Try.prog W .any base t v := hval0
  have hW' := hW
  obtain ⟨p, q, hA0, hV, rfl, hfz, hnd⟩ := hW
  have hA : DataW.TrodAll enc Try.prog W 0 (fun _ => true) true Try.f8.params.toList args.toList ds p := hA0
  rw [Try.params8] at hA hval hsz
  obtain ⟨v0, vs0, d0, ds0, p0, q0, hargs, rfl, rfl, h0, r0⟩ := trodAll_cons hA
  obtain ⟨v1, vs1, d1, ds1, p1, q1, rfl, rfl, rfl, h1, r1⟩ := trodAll_cons r0
  obtain ⟨v2, vs2, d2, ds2, p2, q2, rfl, rfl, rfl, h2, r2⟩ := trodAll_cons r1
  obtain ⟨rfl, rfl, rfl⟩ := trodAll_nil r2
  obtain rfl : args = #[v0, v1, v2] := by cases args; simp_all
  obtain ⟨rfl, rfl⟩ := trodVars_none hV
  have k0 := h0
  have lt0 : ∀ x ∈ p0, x.block < W.heap.size := by obtain ⟨m, hm⟩ := k0; exact DataW.trod_lt m _ _ _ hm
  obtain ⟨a0_, len0_, cap0_, rfl⟩ := okWide_slice Try.underlying25 (hval 0 25 v0 rfl rfl)
  obtain ⟨fu0, hf0⟩ := h0
  simp only [Value.cells] at hf0
  obtain ⟨A0, c0, l0, hv0, hc0, hr0, w0'⟩ := Open.rows3 PFnEveryTaking.k47 (fun a b c' => (⟨a, b, c'⟩ : PFnEveryTaking.S47)) rfl (fun w a b c' => PFnEveryTaking.k47_mk w _) Try.underlying25 Try.underlying47 (by kernel_rfl) (by kernel_rfl) Try.underlying3 Try.underlying3 Try.underlying3 hf0
  have w0 : ∀ y ∈ l0, (Lit.int .i64 y.f0).wf = true ∧ (Lit.int .i64 y.f1).wf = true ∧ (Lit.int .i64 y.f2).wf = true := fun y hy => by obtain ⟨a, b, c', rfl, hh⟩ := w0' y hy; exact hh
  have m0 : l0.length ≤ 9223372036854775807 := hr0.2.1
  injection hv0 with e1_0 e2_0 e3_0; replace e1_0 := e1_0.symm; replace e3_0 := e3_0.symm; subst e1_0; subst e2_0; subst e3_0
  have k1 := h1
  have lt1 : ∀ x ∈ p1, x.block < W.heap.size := by obtain ⟨m, hm⟩ := k1; exact DataW.trod_lt m _ _ _ hm
  obtain ⟨a1_, len1_, cap1_, rfl⟩ := okWide_slice Try.underlying32 (hval 1 32 v1 rfl rfl)
  obtain ⟨fu1, hf1⟩ := h1
  simp only [Value.cells] at hf1
  obtain ⟨A1, c1, l1, hv1, hc1, hr1, w1'⟩ := Open.rows2 PFnEveryTaking.k49 (fun a b => (⟨a, b⟩ : PFnEveryTaking.S49)) rfl (fun w a b => PFnEveryTaking.k49_mk w _) Try.underlying32 Try.underlying49 (by kernel_rfl) (by kernel_rfl) Try.underlying3 Try.underlying3 hf1
  have w1 : ∀ y ∈ l1, (Lit.int .i64 y.f0).wf = true ∧ (Lit.int .i64 y.f1).wf = true := fun y hy => by obtain ⟨a, b, rfl, hh⟩ := w1' y hy; exact hh
  have m1 : l1.length ≤ 9223372036854775807 := hr1.2.1
  injection hv1 with e1_1 e2_1 e3_1; replace e1_1 := e1_1.symm; replace e3_1 := e3_1.symm; subst e1_1; subst e2_1; subst e3_1
  have k2 := h2
  have lt2 : ∀ x ∈ p2, x.block < W.heap.size := by obtain ⟨m, hm⟩ := k2; exact DataW.trod_lt m _ _ _ hm
  obtain ⟨a2_, len2_, cap2_, rfl⟩ := okWide_slice Try.underlying36 (hval 2 36 v2 rfl rfl)
  obtain ⟨fu2, hf2⟩ := h2
  simp only [Value.cells] at hf2
  obtain ⟨A2, c2, l2, hv2, hc2, hr2, w2⟩ := Open.rows1 Try.underlying36 Try.underlying3 (by kernel_rfl) hf2
  have m2 : l2.length ≤ 9223372036854775807 := hr2.2.1
  injection hv2 with e1_2 e2_2 e3_2; replace e1_2 := e1_2.symm; replace e3_2 := e3_2.symm; subst e1_2; subst e2_2; subst e3_2
  clear hA0 hval0 hsz0 hsz
  obtain ⟨kk, hpure⟩ := Pure.FnEveryTaking l0 l1 l2 m0 w0 m1 w1 m2 w2
  refine (PFnEveryTaking.laws_FnEveryTaking.calls kk A0 c0 l0 A1 c1 l1 A2 c2 l2 W hr0 hc0 hr1 hc1 hr2 hc2 hpure).mono fun e W' ⟨he, bel⟩ => ?_
  subst he
  exact ⟨_, rfl, _, _, _, [], _, [], hW', trodAll_mk1 (shut_bool Try.underlying4 _), (trodAll_cons_mk (Below.trod laidOut (by kernel_rfl) (of_decide_eq_true (by kernel_rfl)) k0 bel lt0) (trodAll_cons_mk (Below.trod laidOut (by kernel_rfl) (of_decide_eq_true (by kernel_rfl)) k1 bel lt1) (trodAll_cons_mk (Below.trod laidOut (by kernel_rfl) (of_decide_eq_true (by kernel_rfl)) k2 bel lt2) trodAll_mk0))), rfl, bel.frame _, fun h => by cases h⟩
theorem over : Rows.fnEveryTakingRow.holds Try.pinned (OpenSpec.ofChange Rows.fnEveryTakingSpec) :=
  OpenClaim.holds_of_wide 8 Try.f8 rfl rfl rfl rfl rfl rfl rfl ⟨rfl, rfl, rfl, rfl, rfl⟩ rfl rfl rfl rfl rfl (by kernel_rfl) Try.func8 (by kernel_rfl)
    (of_decide_eq_true (by kernel_rfl)) (by unfold Func.isWrapper; first | (rw [if_pos (by decide +kernel)]; kernel_rfl) | (rw [if_neg (by decide +kernel)]; exact ⟨rfl, rfl⟩))
    (fun os started H enc _ => lifted os started H enc)
theorem proved : Rows.FnEveryTakingSaid := over
#print axioms proved
end Go.Proofs.Ytnnimbbffbfhoaa.fnEveryTaking
namespace Go.Proofs.Ytnnimbbffbfhoaa
/-- The row, under a short name, for the claim. -/
theorem fnEveryTaking_holds : Rows.FnEveryTakingSaid := fnEveryTaking.proved
end Go.Proofs.Ytnnimbbffbfhoaa
