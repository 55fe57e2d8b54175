/- For all three whole numbers of 64 bits the law FnExactClamp returns true (its printed function does). -/
import Derived.Test.YtkfolpcmehmmlaaPFnExactClampx1
import Derived.Test.YtkfolpcmehmmlaaKit
namespace Go.Proofs.Ytkfolpcmehmmlaa.Pure
open Go.RowKit Go.Proofs.Ytkfolpcmehmmlaa.PFnExactClamp Go.Proofs.YtkfolpcmehmmlaaW.PrintWords Go.Proofs.YtkfolpcmehmmlaaW.PrintLast Go.Proofs.YtkfolpcmehmmlaaW.PrintMore Go.Proofs.Ytkfolpcmehmmlaa.Kit
set_option linter.unusedVariables false
set_option linter.unusedSimpArgs false

theorem spec_Clamp_ev (n a b : Int) : Ev (fun k => spec_Clamp.f k n a b) (mx a (mn n b)) := by
  unfold spec_Clamp.f
  by_cases h : b < a
  · simp only [if_pos h]
    refine Ev.step (f := fun _ => some a) (fun k => by rw [spec_Clamp.j0]; simp) (ev_some ?_)
    unfold mx mn; (repeat' split) <;> omega
  · simp only [if_neg h]
    by_cases h2 : n < a
    · refine Ev.step (f := fun _ => some a) (fun k => by rw [spec_Clamp.j0]; simp [h2]) (ev_some ?_)
      unfold mx mn; (repeat' split) <;> omega
    · by_cases h3 : n > b
      · refine Ev.step (f := fun _ => some b) (fun k => by rw [spec_Clamp.j0]; simp [h2, h3]) (ev_some ?_)
        unfold mx mn; (repeat' split) <;> omega
      · refine Ev.step (f := fun _ => some n) (fun k => by rw [spec_Clamp.j0]; simp [h2, h3]) (ev_some ?_)
        unfold mx mn; (repeat' split) <;> omega
theorem FnExactClamp : laws_FnExactClamp.Pure := by
  intro n a b _ _ _
  refine Ev.rounds ?_
  unfold laws_FnExactClamp.f impl_Clamp.f
  refine ev_bind _ (spec_Clamp_ev n a b) ?_
  simp only [Option.bind_some, if_true]
  exact Ev.now _

end Go.Proofs.Ytkfolpcmehmmlaa.Pure
