/- For every tag of three whole numbers of 64 bits the law FnExactTagCheck returns true (its printed function does): program and reference agree. -/
import Derived.Test.YtkfolpcmehmmlaaPFnExactTagCheckx1
import Derived.Test.YtkfolpcmehmmlaaKit
namespace Go.Proofs.Ytkfolpcmehmmlaa.Pure
open Go.RowKit Go.Proofs.Ytkfolpcmehmmlaa.PFnExactTagCheck Go.Proofs.YtkfolpcmehmmlaaW.PrintWords Go.Proofs.YtkfolpcmehmmlaaW.PrintLast Go.Proofs.YtkfolpcmehmmlaaW.PrintMore Go.Proofs.Ytkfolpcmehmmlaa.Kit
set_option linter.unusedVariables false
set_option linter.unusedSimpArgs false

/-- A valid tag. -/
def tagM (l a s : Int) : Bool := decide (0 ≤ l ∧ l ≤ 9 ∧ 1 ≤ a ∧ a ≤ 999 ∧ 0 ≤ s ∧ s ≤ 999999)
def numM (l a s : Int) : Int := if tagM l a s = true then (l * 1000 + a) * 1000000 + s else -1
def checkM (l a s : Int) : Int := if tagM l a s = true then numM l a s % 7 else -1
theorem tagM_iff (l a s : Int) : tagM l a s = true ↔ (0 ≤ l ∧ l ≤ 9 ∧ 1 ≤ a ∧ a ≤ 999 ∧ 0 ≤ s ∧ s ≤ 999999) := by simp [tagM]
theorem numM_pos {l a s : Int} (h : tagM l a s = true) : numM l a s = (l * 1000 + a) * 1000000 + s := by simp [numM, h]
theorem numM_range {l a s : Int} (h : tagM l a s = true) : 0 ≤ numM l a s ∧ numM l a s ≤ 9999999999 := by
  rw [numM_pos h]
  rw [tagM_iff] at h
  omega
theorem spec_in (x a b : Int) : spec_l01In.f x a b = some (decide (a ≤ x ∧ x ≤ b)) := by
  unfold spec_l01In.f
  by_cases h : x ≥ a
  · rw [if_pos h]; congr 1; simp; omega
  · rw [if_neg h]; congr 1; simp; omega
theorem spec_TagOk_eq (l a s : Int) : spec_TagOk.f l a s = some (tagM l a s) := by
  unfold spec_TagOk.f
  simp only [spec_in, Option.bind_some]
  unfold tagM
  by_cases h1 : 0 ≤ l ∧ l ≤ 9
  · simp only [h1, decide_true, if_true]
    by_cases h2 : 1 ≤ a ∧ a ≤ 999
    · simp [h1, h2]
    · simp [h2]; omega
  · simp [h1]; omega
theorem impl_TagOk_eq (l a s : Int) : impl_TagOk.f l a s = some (tagM l a s) := by
  unfold impl_TagOk.f tagM
  by_cases h1 : l ≥ 0
  · rw [if_pos h1]
    by_cases h2 : l ≤ 9
    · rw [if_pos h2]
      by_cases h3 : a ≥ 1
      · rw [if_pos h3]
        by_cases h4 : a ≤ 999
        · rw [if_pos h4]
          by_cases h5 : s ≥ 0
          · rw [if_pos h5]; congr 1; rw [decide_eq_decide]; omega
          · rw [if_neg h5]; congr 1; symm; rw [decide_eq_false_iff_not]; omega
        · rw [if_neg h4]; congr 1; symm; rw [decide_eq_false_iff_not]; omega
      · rw [if_neg h3]; congr 1; symm; rw [decide_eq_false_iff_not]; omega
    · rw [if_neg h2]; congr 1; symm; rw [decide_eq_false_iff_not]; omega
  · rw [if_neg h1]; congr 1; symm; rw [decide_eq_false_iff_not]; omega
theorem num_wrap {l a s : Int} (h : tagM l a s = true) : wrap64 ((wrap64 ((wrap64 ((wrap64 (l * 1000)) + a)) * 1000000)) + s) = (l * 1000 + a) * 1000000 + s := by
  rw [tagM_iff] at h
  rw [w64 (x := l * 1000) (by omega) (by omega), w64 (x := l * 1000 + a) (by omega) (by omega), w64 (x := (l * 1000 + a) * 1000000) (by omega) (by omega), w64 (by omega) (by omega)]
theorem spec_TagNumber_eq (l a s : Int) : spec_TagNumber.f l a s = some (numM l a s) := by
  unfold spec_TagNumber.f
  rw [spec_TagOk_eq, Option.bind_some]
  by_cases h : tagM l a s = true
  · rw [if_pos h, num_wrap h, numM_pos h]
  · rw [if_neg h]; simp [numM, h]
theorem impl_TagNumber_eq (l a s : Int) : impl_TagNumber.f l a s = some (numM l a s) := by
  unfold impl_TagNumber.f
  rw [impl_TagOk_eq, Option.bind_some]
  by_cases h : tagM l a s = true
  · rw [if_pos h, num_wrap h, numM_pos h]
  · rw [if_neg h]; simp [numM, h]
theorem spec_TagCheck_eq (l a s : Int) : spec_TagCheck.f l a s = some (checkM l a s) := by
  unfold spec_TagCheck.f checkM
  rw [spec_TagOk_eq, Option.bind_some]
  by_cases h : tagM l a s = true
  · rw [if_pos h, if_pos h, spec_TagNumber_eq, Option.bind_some, Int.tmod_eq_emod_of_nonneg (numM_range h).1]
  · rw [if_neg h, if_neg h]
theorem impl_TagCheck_eq (l a s : Int) : impl_TagCheck.f l a s = some (checkM l a s) := by
  unfold impl_TagCheck.f checkM
  rw [impl_TagOk_eq, Option.bind_some]
  by_cases h : tagM l a s = true
  · rw [if_pos h, if_pos h, impl_TagNumber_eq, Option.bind_some, Int.tmod_eq_emod_of_nonneg (numM_range h).1]
  · rw [if_neg h, if_neg h]
theorem FnExactTagCheck : laws_FnExactTagCheck.Pure := by
  intro l a s _ _ _
  unfold laws_FnExactTagCheck.f laws_toTag.f
  simp only [Option.bind_some, spec_TagCheck_eq, impl_TagCheck_eq]
  simp

end Go.Proofs.Ytkfolpcmehmmlaa.Pure
