-- Written by a program of this session (wip/myprint.py: the kit's print with changes): not by print.sh itself.
import Derived.Test.YtnnimbbffbfhoaaPFnAssignedx0
import Derived.Test.YtnnimbbffbfhoaaPFnAssignedx1
import Derived.Test.YtnnimbbffbfhoaaPFnAssignedx2
import Derived.Test.YtnnimbbffbfhoaaPFnAssignedx6
import Derived.Test.YtnnimbbffbfhoaaPFnAssignedx8
import Derived.Test.YtnnimbbffbfhoaaPFnAssignedx10
import Derived.Test.YtnnimbbffbfhoaaPFnAssignedx11
import Derived.Test.YtnnimbbffbfhoaaPFnAssignedx12
import Derived.Test.YtnnimbbffbfhoaaPFnAssignedx13
namespace Go.Proofs.Ytnnimbbffbfhoaa.PFnAssigned
open Go.RowKit Go.Proofs.YtnnimbbffbfhoaaW.PrintWords Go.Proofs.YtnnimbbffbfhoaaW.PrintLast Go.Proofs.YtnnimbbffbfhoaaW.PrintMore
open Go renaming Act.put → uc
open Go.Proofs.YtnnimbbffbfhoaaW.PrintLast renaming i64_w → uZ, i32_w → ua
open Go.Proofs.YtnnimbbffbfhoaaW.PrintWords renaming Aside0.mk → uD, below_size → uN, below_step → uO, Kd.R_drewN → uS, Kd.R_drew → uT, Kd.R_alloc → uU, Kd.R_mono → uX
open List renaming setIfInBounds_toArray → uA, set_cons_zero → uB, set_cons_succ → uC
attribute [local go_sem] max2_int min2_int max_two min_two max_three min_three max_four min_four   -- for this text's walks alone
set_option linter.unusedVariables false
set_option linter.unusedSimpArgs false

/-! ### laws_FnAssigned: function 9 -/
mutual
def laws_FnAssigned.j0 : Nat → List (S47) → List (S49) → List Int → Bool → Option (Bool)
 | 0, _, _, _, _ => none
 | k + 1, x3, x4, x5, x43 => if x43 = true then (some false) else (laws_FnAssigned.l0 k x3 x4 x5 0 0)
def laws_FnAssigned.l0 : Nat → List (S47) → List (S49) → List Int → Int → Int → Option (Bool)
 | 0, _, _, _, _, _ => none
 | k + 1, x3, x4, x5, x6, x7 => if x7 < (x5.length : Int) then (if 0 ≤ x7 then (if x7 < (x4.length : Int) then (if ((rd_T49 x4 x7).f1) = 0 then (if (rd x5 x7) = 0 then (laws_FnAssigned.l0 k x3 x4 x5 x6 (wrap64 (x7 + 1))) else (laws_FnAssigned.l1 k x3 x4 x5 (wrap64 (x6 + 1)) x7 false 0)) else (if (rd x5 x7) = ((rd_T49 x4 x7).f1) then (laws_FnAssigned.l0 k x3 x4 x5 x6 (wrap64 (x7 + 1))) else (some false))) else (none)) else (none)) else ((impl_MostAssigned.f k x3 x4).bind fun t322 => (if x6 = t322 then ((spec_MostAssigned.f k x3 x4).bind fun t323 => (some (x6 == t323))) else (some false)))
def laws_FnAssigned.l1 : Nat → List (S47) → List (S49) → List Int → Int → Int → Bool → Int → Option (Bool)
 | 0, _, _, _, _, _, _, _ => none
 | k + 1, x3, x4, x5, x6, x7, x8, x9 => if x9 < (x3.length : Int) then (if x8 = true then (laws_FnAssigned.l1 k x3 x4 x5 x6 x7 true (wrap64 (x9 + 1))) else (if 0 ≤ x9 then (if 0 ≤ x7 then (if x7 < (x5.length : Int) then (if ((rd_T47 x3 x9).f0) = (rd x5 x7) then (if x7 < (x4.length : Int) then (if ((rd_T47 x3 x9).f1) ≤ ((rd_T49 x4 x7).f0) then (laws_FnAssigned.l1 k x3 x4 x5 x6 x7 (decide (((rd_T47 x3 x9).f2) ≥ ((rd_T49 x4 x7).f0))) (wrap64 (x9 + 1))) else (laws_FnAssigned.l1 k x3 x4 x5 x6 x7 false (wrap64 (x9 + 1)))) else (none)) else (laws_FnAssigned.l1 k x3 x4 x5 x6 x7 false (wrap64 (x9 + 1)))) else (none)) else (none)) else (none))) else (laws_FnAssigned.l2 k x3 x4 x5 x6 x7 x8 0)
def laws_FnAssigned.l2 : Nat → List (S47) → List (S49) → List Int → Int → Int → Bool → Int → Option (Bool)
 | 0, _, _, _, _, _, _, _ => none
 | k + 1, x3, x4, x5, x6, x7, x8, x10 => if x10 < (x5.length : Int) then (if x10 = x7 then (laws_FnAssigned.l2 k x3 x4 x5 x6 x7 x8 (wrap64 (x10 + 1))) else (if 0 ≤ x10 then (if 0 ≤ x7 then (if x7 < (x5.length : Int) then (if (rd x5 x10) = (rd x5 x7) then (some false) else (laws_FnAssigned.l2 k x3 x4 x5 x6 x7 x8 (wrap64 (x10 + 1)))) else (none)) else (none)) else (none))) else (if x8 = true then (laws_FnAssigned.l0 k x3 x4 x5 x6 (wrap64 (x7 + 1))) else (some false))
end
def laws_FnAssigned.f (k : Nat) (l0 : List Int) : Option (Bool) := (laws_big.f l0).bind fun t306 => (if t306 = true then (some true) else ((spec_DrawExpects.f k l0).bind fun bt307 => ((impl_Assign.f k bt307.1 bt307.2).bind fun t313 => ((spec_Assign.f k bt307.1 bt307.2).bind fun t316 => ((laws_sameInts.f k t313 t316).bind fun t319 => (if t319 = true then (if (t313.length : Int) = (bt307.2.length : Int) then ((impl_ExpectOk.f bt307.1).bind fun t320 => (if t320 = true then ((impl_SightsOk.f k bt307.2).bind fun t321 => (laws_FnAssigned.j0 k bt307.1 bt307.2 t313 (!t321))) else (laws_FnAssigned.j0 k bt307.1 bt307.2 t313 true))) else (laws_FnAssigned.j0 k bt307.1 bt307.2 t313 true)) else (laws_FnAssigned.j0 k bt307.1 bt307.2 t313 true)))))))
theorem laws_FnAssigned.mono_l : ∀ k, (∀ y0 y1 y2 y3, LeO (laws_FnAssigned.j0 k y0 y1 y2 y3) (laws_FnAssigned.j0 (k + 1) y0 y1 y2 y3)) ∧ (∀ y0 y1 y2 y3 y4, LeO (laws_FnAssigned.l0 k y0 y1 y2 y3 y4) (laws_FnAssigned.l0 (k + 1) y0 y1 y2 y3 y4)) ∧ (∀ y0 y1 y2 y3 y4 y5 y6, LeO (laws_FnAssigned.l1 k y0 y1 y2 y3 y4 y5 y6) (laws_FnAssigned.l1 (k + 1) y0 y1 y2 y3 y4 y5 y6)) ∧ (∀ y0 y1 y2 y3 y4 y5 y6, LeO (laws_FnAssigned.l2 k y0 y1 y2 y3 y4 y5 y6) (laws_FnAssigned.l2 (k + 1) y0 y1 y2 y3 y4 y5 y6))
 | 0 => ⟨fun _ _ _ _ r h => by simp [laws_FnAssigned.j0] at h, fun _ _ _ _ _ r h => by simp [laws_FnAssigned.l0] at h, fun _ _ _ _ _ _ _ r h => by simp [laws_FnAssigned.l1] at h, fun _ _ _ _ _ _ _ r h => by simp [laws_FnAssigned.l2] at h⟩
 | k + 1 => by
  obtain ⟨ih0, ih1, ih2, ih3⟩ := laws_FnAssigned.mono_l k
  refine ⟨?_, ?_, ?_, ?_⟩
  ·intro y0 y1 y2 y3
   unfold laws_FnAssigned.j0
   repeat' first
   | (with_reducible exact ih0 _ _ _ _)
   | (with_reducible exact ih1 _ _ _ _ _)
   | (with_reducible exact ih2 _ _ _ _ _ _ _)
   | (with_reducible exact ih3 _ _ _ _ _ _ _)
   | (with_reducible exact impl_Assign.mono _ _ _)
   | (with_reducible exact impl_MostAssigned.mono _ _ _)
   | (with_reducible exact impl_SightsOk.mono _ _)
   | (with_reducible exact laws_sameInts.mono _ _ _)
   | (with_reducible exact spec_Assign.mono _ _ _)
   | (with_reducible exact spec_DrawExpects.mono _ _)
   | (with_reducible exact spec_MostAssigned.mono _ _ _)
   | (with_reducible exact LeO.refl _)
   | (with_reducible exact LeO.none _)
   | (with_reducible refine LeO.ite ?_ ?_)
   | (with_reducible refine LeO.bind ?_ (fun _ => ?_))
   | exact ih0 _ _ _ _
   | exact ih1 _ _ _ _ _
   | exact ih2 _ _ _ _ _ _ _
   | exact ih3 _ _ _ _ _ _ _
   | exact impl_Assign.mono _ _ _
   | exact impl_MostAssigned.mono _ _ _
   | exact impl_SightsOk.mono _ _
   | exact laws_sameInts.mono _ _ _
   | exact spec_Assign.mono _ _ _
   | exact spec_DrawExpects.mono _ _
   | exact spec_MostAssigned.mono _ _ _
   | exact LeO.none _
   | refine LeO.ite ?_ ?_
   | refine LeO.bind ?_ (fun _ => ?_)
  ·intro y0 y1 y2 y3 y4
   unfold laws_FnAssigned.l0
   repeat' first
   | (with_reducible exact ih0 _ _ _ _)
   | (with_reducible exact ih1 _ _ _ _ _)
   | (with_reducible exact ih2 _ _ _ _ _ _ _)
   | (with_reducible exact ih3 _ _ _ _ _ _ _)
   | (with_reducible exact impl_Assign.mono _ _ _)
   | (with_reducible exact impl_MostAssigned.mono _ _ _)
   | (with_reducible exact impl_SightsOk.mono _ _)
   | (with_reducible exact laws_sameInts.mono _ _ _)
   | (with_reducible exact spec_Assign.mono _ _ _)
   | (with_reducible exact spec_DrawExpects.mono _ _)
   | (with_reducible exact spec_MostAssigned.mono _ _ _)
   | (with_reducible exact LeO.refl _)
   | (with_reducible exact LeO.none _)
   | (with_reducible refine LeO.ite ?_ ?_)
   | (with_reducible refine LeO.bind ?_ (fun _ => ?_))
   | exact ih0 _ _ _ _
   | exact ih1 _ _ _ _ _
   | exact ih2 _ _ _ _ _ _ _
   | exact ih3 _ _ _ _ _ _ _
   | exact impl_Assign.mono _ _ _
   | exact impl_MostAssigned.mono _ _ _
   | exact impl_SightsOk.mono _ _
   | exact laws_sameInts.mono _ _ _
   | exact spec_Assign.mono _ _ _
   | exact spec_DrawExpects.mono _ _
   | exact spec_MostAssigned.mono _ _ _
   | exact LeO.none _
   | refine LeO.ite ?_ ?_
   | refine LeO.bind ?_ (fun _ => ?_)
  ·intro y0 y1 y2 y3 y4 y5 y6
   unfold laws_FnAssigned.l1
   repeat' first
   | (with_reducible exact ih0 _ _ _ _)
   | (with_reducible exact ih1 _ _ _ _ _)
   | (with_reducible exact ih2 _ _ _ _ _ _ _)
   | (with_reducible exact ih3 _ _ _ _ _ _ _)
   | (with_reducible exact impl_Assign.mono _ _ _)
   | (with_reducible exact impl_MostAssigned.mono _ _ _)
   | (with_reducible exact impl_SightsOk.mono _ _)
   | (with_reducible exact laws_sameInts.mono _ _ _)
   | (with_reducible exact spec_Assign.mono _ _ _)
   | (with_reducible exact spec_DrawExpects.mono _ _)
   | (with_reducible exact spec_MostAssigned.mono _ _ _)
   | (with_reducible exact LeO.refl _)
   | (with_reducible exact LeO.none _)
   | (with_reducible refine LeO.ite ?_ ?_)
   | (with_reducible refine LeO.bind ?_ (fun _ => ?_))
   | exact ih0 _ _ _ _
   | exact ih1 _ _ _ _ _
   | exact ih2 _ _ _ _ _ _ _
   | exact ih3 _ _ _ _ _ _ _
   | exact impl_Assign.mono _ _ _
   | exact impl_MostAssigned.mono _ _ _
   | exact impl_SightsOk.mono _ _
   | exact laws_sameInts.mono _ _ _
   | exact spec_Assign.mono _ _ _
   | exact spec_DrawExpects.mono _ _
   | exact spec_MostAssigned.mono _ _ _
   | exact LeO.none _
   | refine LeO.ite ?_ ?_
   | refine LeO.bind ?_ (fun _ => ?_)
  ·intro y0 y1 y2 y3 y4 y5 y6
   unfold laws_FnAssigned.l2
   repeat' first
   | (with_reducible exact ih0 _ _ _ _)
   | (with_reducible exact ih1 _ _ _ _ _)
   | (with_reducible exact ih2 _ _ _ _ _ _ _)
   | (with_reducible exact ih3 _ _ _ _ _ _ _)
   | (with_reducible exact impl_Assign.mono _ _ _)
   | (with_reducible exact impl_MostAssigned.mono _ _ _)
   | (with_reducible exact impl_SightsOk.mono _ _)
   | (with_reducible exact laws_sameInts.mono _ _ _)
   | (with_reducible exact spec_Assign.mono _ _ _)
   | (with_reducible exact spec_DrawExpects.mono _ _)
   | (with_reducible exact spec_MostAssigned.mono _ _ _)
   | (with_reducible exact LeO.refl _)
   | (with_reducible exact LeO.none _)
   | (with_reducible refine LeO.ite ?_ ?_)
   | (with_reducible refine LeO.bind ?_ (fun _ => ?_))
   | exact ih0 _ _ _ _
   | exact ih1 _ _ _ _ _
   | exact ih2 _ _ _ _ _ _ _
   | exact ih3 _ _ _ _ _ _ _
   | exact impl_Assign.mono _ _ _
   | exact impl_MostAssigned.mono _ _ _
   | exact impl_SightsOk.mono _ _
   | exact laws_sameInts.mono _ _ _
   | exact spec_Assign.mono _ _ _
   | exact spec_DrawExpects.mono _ _
   | exact spec_MostAssigned.mono _ _ _
   | exact LeO.none _
   | refine LeO.ite ?_ ?_
   | refine LeO.bind ?_ (fun _ => ?_)
theorem laws_FnAssigned.mono : ∀ a0 k, LeO (laws_FnAssigned.f k a0) (laws_FnAssigned.f (k + 1) a0) := by
 intro a0 k
 obtain ⟨ih0, ih1, ih2, ih3⟩ := laws_FnAssigned.mono_l k
 unfold laws_FnAssigned.f
 repeat' first
   | (with_reducible exact ih0 _ _ _ _)
   | (with_reducible exact ih1 _ _ _ _ _)
   | (with_reducible exact ih2 _ _ _ _ _ _ _)
   | (with_reducible exact ih3 _ _ _ _ _ _ _)
   | (with_reducible exact impl_Assign.mono _ _ _)
   | (with_reducible exact impl_MostAssigned.mono _ _ _)
   | (with_reducible exact impl_SightsOk.mono _ _)
   | (with_reducible exact laws_sameInts.mono _ _ _)
   | (with_reducible exact spec_Assign.mono _ _ _)
   | (with_reducible exact spec_DrawExpects.mono _ _)
   | (with_reducible exact spec_MostAssigned.mono _ _ _)
   | (with_reducible exact LeO.refl _)
   | (with_reducible exact LeO.none _)
   | (with_reducible refine LeO.ite ?_ ?_)
   | (with_reducible refine LeO.bind ?_ (fun _ => ?_))
   | exact ih0 _ _ _ _
   | exact ih1 _ _ _ _ _
   | exact ih2 _ _ _ _ _ _ _
   | exact ih3 _ _ _ _ _ _ _
   | exact impl_Assign.mono _ _ _
   | exact impl_MostAssigned.mono _ _ _
   | exact impl_SightsOk.mono _ _
   | exact laws_sameInts.mono _ _ _
   | exact spec_Assign.mono _ _ _
   | exact spec_DrawExpects.mono _ _
   | exact spec_MostAssigned.mono _ _ _
   | exact LeO.none _
   | refine LeO.ite ?_ ?_
   | refine LeO.bind ?_ (fun _ => ?_)
set_option maxHeartbeats 8000000 in
set_option maxRecDepth 100000 in
theorem laws_FnAssigned.calls (k : Nat) (A0 : Option Addr) (c0 : Nat) (l0 : List Int) (w : World) (hr0 : Kd.C (Kd.int .u8) w A0 l0.length l0) (hc0 : l0.length ≤ c0) (h : laws_FnAssigned.f k l0 = some true) :
  Calls Try.prog 9 #[.slice A0 l0.length c0] w fun e w' => e = .returned (.bool true) ∧ Below w.heap.size w w' := by
 have HR0 := uD hr0
 have HC0 := uD hc0
 clear hr0 hc0
 have HB := uD (Below.refl w.heap.size w)
 have H : ((laws_big.f l0).bind fun t306 => (if t306 = true then (some true) else ((spec_DrawExpects.f k l0).bind fun bt307 => ((impl_Assign.f k bt307.1 bt307.2).bind fun t313 => ((spec_Assign.f k bt307.1 bt307.2).bind fun t316 => ((laws_sameInts.f k t313 t316).bind fun t319 => (if t319 = true then (if (t313.length : Int) = (bt307.2.length : Int) then ((impl_ExpectOk.f bt307.1).bind fun t320 => (if t320 = true then ((impl_SightsOk.f k bt307.2).bind fun t321 => (laws_FnAssigned.j0 k bt307.1 bt307.2 t313 (!t321))) else (laws_FnAssigned.j0 k bt307.1 bt307.2 t313 true))) else (laws_FnAssigned.j0 k bt307.1 bt307.2 t313 true)) else (laws_FnAssigned.j0 k bt307.1 bt307.2 t313 true)))))))) = some true := h
 clear h
 replace H := Option.bind_eq_some_iff.mp H
 obtain ⟨t306, A20, H⟩ := H
 replace H : (if t306 = true then (some true) else ((spec_DrawExpects.f k l0).bind fun bt307 => ((impl_Assign.f k bt307.1 bt307.2).bind fun t313 => ((spec_Assign.f k bt307.1 bt307.2).bind fun t316 => ((laws_sameInts.f k t313 t316).bind fun t319 => (if t319 = true then (if (t313.length : Int) = (bt307.2.length : Int) then ((impl_ExpectOk.f bt307.1).bind fun t320 => (if t320 = true then ((impl_SightsOk.f k bt307.2).bind fun t321 => (laws_FnAssigned.j0 k bt307.1 bt307.2 t313 (!t321))) else (laws_FnAssigned.j0 k bt307.1 bt307.2 t313 true))) else (laws_FnAssigned.j0 k bt307.1 bt307.2 t313 true)) else (laws_FnAssigned.j0 k bt307.1 bt307.2 t313 true))))))) = some true := H
 have A2 := uD A20
 clear A20
 by_cases c3 : t306 = true
 ·subst c3
  have H1 : (some true) = some true := by rw [if_pos rfl] at H; first | done | exact H
  clear H
  have H := H1
  clear H1
  have HT := Option.some.inj H
  clear H
  go_enter Try.func9, Try.ntmps9
  go_wp2_with (first | (go_at_call 34; (with_reducible refine (laws_big.calls _ _ l0 true _ ?side1 ?side2 A2.out).mono ?_); (case side1 => repeat (first | exact HR0.out | (with_reducible refine Kd.C_alloc ?_ _) | (with_reducible refine Kd.C_drewN ?_ _) | (with_reducible refine Kd.C_drew ?_))); (case side2 => exact HC0.out); rintro e w' ⟨rfl, ⟨nd, rfl⟩⟩; (try first | exact ⟨rfl, _, World.drewN_drewN _ _ _⟩ | exact ⟨rfl, _, Eq.trans (World.drewN_drewN _ _ _) (congrArg (World.drewN _) (Nat.add_assoc _ _ _))⟩)))
  repeat (go_quiet (first | (go_at_call 34; (with_reducible refine (laws_big.calls _ _ l0 true _ ?side1 ?side2 A2.out).mono ?_); (case side1 => repeat (first | exact HR0.out | (with_reducible refine Kd.C_alloc ?_ _) | (with_reducible refine Kd.C_drewN ?_ _) | (with_reducible refine Kd.C_drew ?_))); (case side2 => exact HC0.out); rintro e w' ⟨rfl, ⟨nd, rfl⟩⟩; (try first | exact ⟨rfl, _, World.drewN_drewN _ _ _⟩ | exact ⟨rfl, _, Eq.trans (World.drewN_drewN _ _ _) (congrArg (World.drewN _) (Nat.add_assoc _ _ _))⟩))); try go_wp2_with (first | (go_at_call 34; (with_reducible refine (laws_big.calls _ _ l0 true _ ?side1 ?side2 A2.out).mono ?_); (case side1 => repeat (first | exact HR0.out | (with_reducible refine Kd.C_alloc ?_ _) | (with_reducible refine Kd.C_drewN ?_ _) | (with_reducible refine Kd.C_drew ?_))); (case side2 => exact HC0.out); rintro e w' ⟨rfl, ⟨nd, rfl⟩⟩; (try first | exact ⟨rfl, _, World.drewN_drewN _ _ _⟩ | exact ⟨rfl, _, Eq.trans (World.drewN_drewN _ _ _) (congrArg (World.drewN _) (Nat.add_assoc _ _ _))⟩))))
  go_ret
  exact ⟨by first | rfl | (simp [errW_none, errW_some] <;> rfl) | (simp [*, errW_none, errW_some] <;> rfl), pb HB⟩
 ·replace c3 := Bool.eq_false_iff.mpr c3
  subst c3
  have H1 : ((spec_DrawExpects.f k l0).bind fun bt307 => ((impl_Assign.f k bt307.1 bt307.2).bind fun t313 => ((spec_Assign.f k bt307.1 bt307.2).bind fun t316 => ((laws_sameInts.f k t313 t316).bind fun t319 => (if t319 = true then (if (t313.length : Int) = (bt307.2.length : Int) then ((impl_ExpectOk.f bt307.1).bind fun t320 => (if t320 = true then ((impl_SightsOk.f k bt307.2).bind fun t321 => (laws_FnAssigned.j0 k bt307.1 bt307.2 t313 (!t321))) else (laws_FnAssigned.j0 k bt307.1 bt307.2 t313 true))) else (laws_FnAssigned.j0 k bt307.1 bt307.2 t313 true)) else (laws_FnAssigned.j0 k bt307.1 bt307.2 t313 true)))))) = some true := by rw [if_neg (show ¬ (false = true) by decide)] at H; first | done | exact H
  clear H
  have H := H1
  clear H1
  replace H := Option.bind_eq_some_iff.mp H
  obtain ⟨⟨t307, t308⟩, A40, H⟩ := H
  replace H : ((impl_Assign.f k t307 t308).bind fun t313 => ((spec_Assign.f k t307 t308).bind fun t316 => ((laws_sameInts.f k t313 t316).bind fun t319 => (if t319 = true then (if (t313.length : Int) = (t308.length : Int) then ((impl_ExpectOk.f t307).bind fun t320 => (if t320 = true then ((impl_SightsOk.f k t308).bind fun t321 => (laws_FnAssigned.j0 k t307 t308 t313 (!t321))) else (laws_FnAssigned.j0 k t307 t308 t313 true))) else (laws_FnAssigned.j0 k t307 t308 t313 true)) else (laws_FnAssigned.j0 k t307 t308 t313 true))))) = some true := H
  have A4 := uD A40
  clear A40
  replace H := Option.bind_eq_some_iff.mp H
  obtain ⟨t313, A50, H⟩ := H
  replace H : ((spec_Assign.f k t307 t308).bind fun t316 => ((laws_sameInts.f k t313 t316).bind fun t319 => (if t319 = true then (if (t313.length : Int) = (t308.length : Int) then ((impl_ExpectOk.f t307).bind fun t320 => (if t320 = true then ((impl_SightsOk.f k t308).bind fun t321 => (laws_FnAssigned.j0 k t307 t308 t313 (!t321))) else (laws_FnAssigned.j0 k t307 t308 t313 true))) else (laws_FnAssigned.j0 k t307 t308 t313 true)) else (laws_FnAssigned.j0 k t307 t308 t313 true)))) = some true := H
  have A5 := uD A50
  clear A50
  have HC6 := uD H
  clear H
  go_enter Try.func9, Try.ntmps9
  go_upto_region 5 with (first | (go_at_call 34; (with_reducible refine (laws_big.calls _ _ l0 false _ ?side1 ?side2 A2.out).mono ?_); (case side1 => repeat (first | exact HR0.out | (with_reducible refine Kd.C_alloc ?_ _) | (with_reducible refine Kd.C_drewN ?_ _) | (with_reducible refine Kd.C_drew ?_))); (case side2 => exact HC0.out); rintro e w' ⟨rfl, ⟨nd, rfl⟩⟩; (try first | exact ⟨rfl, _, World.drewN_drewN _ _ _⟩ | exact ⟨rfl, _, Eq.trans (World.drewN_drewN _ _ _) (congrArg (World.drewN _) (Nat.add_assoc _ _ _))⟩)) | (go_at_call 35; (with_reducible refine (spec_DrawExpects.calls k _ _ l0 t307 t308 _ ?side1 ?side2 A4.out).mono ?_); (case side1 => repeat (first | exact HR0.out | (with_reducible refine Kd.C_alloc ?_ _) | (with_reducible refine Kd.C_drewN ?_ _) | (with_reducible refine Kd.C_drew ?_))); (case side2 => exact HC0.out); rintro e w7 ⟨v309, v311, rfl, ho0, ho1, hb⟩; have HO310 := uD (Kd.R_lower ho0 (uN (pb HB))); have HO312 := uD (Kd.R_lower ho1 (uN (pb HB))); replace HB := uD (uO (pb HB) hb); (try clear hb); (try clear hb2); (try clear hk); (try clear hi); (try clear ho0); (try clear ho1); obtain ⟨Ao8, co8, eo8⟩ := Kd.R_slice HO310.out; subst eo8; obtain ⟨Ao9, co9, eo9⟩ := Kd.R_slice HO312.out; subst eo9) | (go_at_call 24; (with_reducible refine (impl_Assign.calls k _ _ t307 _ _ t308 t313 _ ?side1 ?side2 ?side3 ?side4 A5.out).mono ?_); (case side1 => repeat (first | exact (Kd.R_reads' HO310.out).2.2 | (with_reducible refine Kd.C_alloc ?_ _) | (with_reducible refine Kd.C_drewN ?_ _) | (with_reducible refine Kd.C_drew ?_))); (case side2 => exact (Kd.R_reads' HO310.out).2.1); (case side3 => repeat (first | exact (Kd.R_reads' HO312.out).2.2 | (with_reducible refine Kd.C_alloc ?_ _) | (with_reducible refine Kd.C_drewN ?_ _) | (with_reducible refine Kd.C_drew ?_))); (case side4 => exact (Kd.R_reads' HO312.out).2.1); rintro e w10 ⟨v314, rfl, ho0, hb⟩; replace HO310 := uD (Kd.R_below (pr HO310) hb); replace HO312 := uD (Kd.R_below (pr HO312) hb); have HO315 := uD (Kd.R_lower ho0 (uN (pb HB))); replace HB := uD (uO (pb HB) hb); (try clear hb); (try clear hb2); (try clear hk); (try clear hi); (try clear ho0)))
  repeat (go_quiet (first | (go_at_call 34; (with_reducible refine (laws_big.calls _ _ l0 false _ ?side1 ?side2 A2.out).mono ?_); (case side1 => repeat (first | exact HR0.out | (with_reducible refine Kd.C_alloc ?_ _) | (with_reducible refine Kd.C_drewN ?_ _) | (with_reducible refine Kd.C_drew ?_))); (case side2 => exact HC0.out); rintro e w' ⟨rfl, ⟨nd, rfl⟩⟩; (try first | exact ⟨rfl, _, World.drewN_drewN _ _ _⟩ | exact ⟨rfl, _, Eq.trans (World.drewN_drewN _ _ _) (congrArg (World.drewN _) (Nat.add_assoc _ _ _))⟩)) | (go_at_call 35; (with_reducible refine (spec_DrawExpects.calls k _ _ l0 t307 t308 _ ?side1 ?side2 A4.out).mono ?_); (case side1 => repeat (first | exact HR0.out | (with_reducible refine Kd.C_alloc ?_ _) | (with_reducible refine Kd.C_drewN ?_ _) | (with_reducible refine Kd.C_drew ?_))); (case side2 => exact HC0.out); rintro e w7 ⟨v309, v311, rfl, ho0, ho1, hb⟩; have HO310 := uD (Kd.R_lower ho0 (uN (pb HB))); have HO312 := uD (Kd.R_lower ho1 (uN (pb HB))); replace HB := uD (uO (pb HB) hb); (try clear hb); (try clear hb2); (try clear hk); (try clear hi); (try clear ho0); (try clear ho1); obtain ⟨Ao8, co8, eo8⟩ := Kd.R_slice HO310.out; subst eo8; obtain ⟨Ao9, co9, eo9⟩ := Kd.R_slice HO312.out; subst eo9) | (go_at_call 24; (with_reducible refine (impl_Assign.calls k _ _ t307 _ _ t308 t313 _ ?side1 ?side2 ?side3 ?side4 A5.out).mono ?_); (case side1 => repeat (first | exact (Kd.R_reads' HO310.out).2.2 | (with_reducible refine Kd.C_alloc ?_ _) | (with_reducible refine Kd.C_drewN ?_ _) | (with_reducible refine Kd.C_drew ?_))); (case side2 => exact (Kd.R_reads' HO310.out).2.1); (case side3 => repeat (first | exact (Kd.R_reads' HO312.out).2.2 | (with_reducible refine Kd.C_alloc ?_ _) | (with_reducible refine Kd.C_drewN ?_ _) | (with_reducible refine Kd.C_drew ?_))); (case side4 => exact (Kd.R_reads' HO312.out).2.1); rintro e w10 ⟨v314, rfl, ho0, hb⟩; replace HO310 := uD (Kd.R_below (pr HO310) hb); replace HO312 := uD (Kd.R_below (pr HO312) hb); have HO315 := uD (Kd.R_lower ho0 (uN (pb HB))); replace HB := uD (uO (pb HB) hb); (try clear hb); (try clear hb2); (try clear hk); (try clear hi); (try clear ho0))); go_upto_region 5 with (first | (go_at_call 34; (with_reducible refine (laws_big.calls _ _ l0 false _ ?side1 ?side2 A2.out).mono ?_); (case side1 => repeat (first | exact HR0.out | (with_reducible refine Kd.C_alloc ?_ _) | (with_reducible refine Kd.C_drewN ?_ _) | (with_reducible refine Kd.C_drew ?_))); (case side2 => exact HC0.out); rintro e w' ⟨rfl, ⟨nd, rfl⟩⟩; (try first | exact ⟨rfl, _, World.drewN_drewN _ _ _⟩ | exact ⟨rfl, _, Eq.trans (World.drewN_drewN _ _ _) (congrArg (World.drewN _) (Nat.add_assoc _ _ _))⟩)) | (go_at_call 35; (with_reducible refine (spec_DrawExpects.calls k _ _ l0 t307 t308 _ ?side1 ?side2 A4.out).mono ?_); (case side1 => repeat (first | exact HR0.out | (with_reducible refine Kd.C_alloc ?_ _) | (with_reducible refine Kd.C_drewN ?_ _) | (with_reducible refine Kd.C_drew ?_))); (case side2 => exact HC0.out); rintro e w7 ⟨v309, v311, rfl, ho0, ho1, hb⟩; have HO310 := uD (Kd.R_lower ho0 (uN (pb HB))); have HO312 := uD (Kd.R_lower ho1 (uN (pb HB))); replace HB := uD (uO (pb HB) hb); (try clear hb); (try clear hb2); (try clear hk); (try clear hi); (try clear ho0); (try clear ho1); obtain ⟨Ao8, co8, eo8⟩ := Kd.R_slice HO310.out; subst eo8; obtain ⟨Ao9, co9, eo9⟩ := Kd.R_slice HO312.out; subst eo9) | (go_at_call 24; (with_reducible refine (impl_Assign.calls k _ _ t307 _ _ t308 t313 _ ?side1 ?side2 ?side3 ?side4 A5.out).mono ?_); (case side1 => repeat (first | exact (Kd.R_reads' HO310.out).2.2 | (with_reducible refine Kd.C_alloc ?_ _) | (with_reducible refine Kd.C_drewN ?_ _) | (with_reducible refine Kd.C_drew ?_))); (case side2 => exact (Kd.R_reads' HO310.out).2.1); (case side3 => repeat (first | exact (Kd.R_reads' HO312.out).2.2 | (with_reducible refine Kd.C_alloc ?_ _) | (with_reducible refine Kd.C_drewN ?_ _) | (with_reducible refine Kd.C_drew ?_))); (case side4 => exact (Kd.R_reads' HO312.out).2.1); rintro e w10 ⟨v314, rfl, ho0, hb⟩; replace HO310 := uD (Kd.R_below (pr HO310) hb); replace HO312 := uD (Kd.R_below (pr HO312) hb); have HO315 := uD (Kd.R_lower ho0 (uN (pb HB))); replace HB := uD (uO (pb HB) hb); (try clear hb); (try clear hb2); (try clear hk); (try clear hi); (try clear ho0))))
  (try simp only [uc, uA, uB, uC])
  go_cut [43] (fun v43 wc => ∃ (kq : Nat) (x43_5 : Bool), v43 = .bool x43_5 ∧ Aside0 (laws_FnAssigned.j0 kq t307 t308 t313 x43_5 = some true) ∧ Aside0 (kq ≤ k) ∧ Aside0 (Kd.R k47 47 wc w.heap.size (fun _ => True) (.slice Ao8 t307.length co8) t307) ∧ Aside0 (Kd.R k49 49 wc w.heap.size (fun _ => True) (.slice Ao9 t308.length co9) t308) ∧ Aside0 (Kd.R (Kd.int .i64) 3 wc w.heap.size (fun _ => True) v314 t313) ∧ Aside0 (Below w.heap.size w wc))
  case first =>
   have H := HC6.out
   clear HC6
   replace H := Option.bind_eq_some_iff.mp H
   obtain ⟨t316, A110, H⟩ := H
   replace H : ((laws_sameInts.f k t313 t316).bind fun t319 => (if t319 = true then (if (t313.length : Int) = (t308.length : Int) then ((impl_ExpectOk.f t307).bind fun t320 => (if t320 = true then ((impl_SightsOk.f k t308).bind fun t321 => (laws_FnAssigned.j0 k t307 t308 t313 (!t321))) else (laws_FnAssigned.j0 k t307 t308 t313 true))) else (laws_FnAssigned.j0 k t307 t308 t313 true)) else (laws_FnAssigned.j0 k t307 t308 t313 true))) = some true := H
   have A11 := uD A110
   clear A110
   replace H := Option.bind_eq_some_iff.mp H
   obtain ⟨t319, A120, H⟩ := H
   replace H : (if t319 = true then (if (t313.length : Int) = (t308.length : Int) then ((impl_ExpectOk.f t307).bind fun t320 => (if t320 = true then ((impl_SightsOk.f k t308).bind fun t321 => (laws_FnAssigned.j0 k t307 t308 t313 (!t321))) else (laws_FnAssigned.j0 k t307 t308 t313 true))) else (laws_FnAssigned.j0 k t307 t308 t313 true)) else (laws_FnAssigned.j0 k t307 t308 t313 true)) = some true := H
   have A12 := uD A120
   clear A120
   by_cases c13 : t319 = true
   ·subst c13
    have H1 : (if (t313.length : Int) = (t308.length : Int) then ((impl_ExpectOk.f t307).bind fun t320 => (if t320 = true then ((impl_SightsOk.f k t308).bind fun t321 => (laws_FnAssigned.j0 k t307 t308 t313 (!t321))) else (laws_FnAssigned.j0 k t307 t308 t313 true))) else (laws_FnAssigned.j0 k t307 t308 t313 true)) = some true := by rw [if_pos rfl] at H; first | done | exact H
    clear H
    have H := H1
    clear H1
    by_cases c14 : (t313.length : Int) = (t308.length : Int)
    ·rw [if_pos c14] at H
     have c14b0 : ((t313.length : Int) == (t308.length : Int)) = true := beq_iff_eq.mpr c14
     have c14b1 : ((t313.length : Int) != (t308.length : Int)) = false := bne_eq_false_iff_eq.mpr c14
     have c14b2 : (t313.length == t308.length) = true := by first | simpa using c14 | (simp at c14 ⊢; omega)
     clear c14
     (first | rw [c14b0] | (simp only [uZ, ua]; rw [c14b0]) | skip)
     replace H := Option.bind_eq_some_iff.mp H
     obtain ⟨t320, A150, H⟩ := H
     replace H : (if t320 = true then ((impl_SightsOk.f k t308).bind fun t321 => (laws_FnAssigned.j0 k t307 t308 t313 (!t321))) else (laws_FnAssigned.j0 k t307 t308 t313 true)) = some true := H
     have A15 := uD A150
     clear A150
     by_cases c16 : t320 = true
     ·subst c16
      have H1 : ((impl_SightsOk.f k t308).bind fun t321 => (laws_FnAssigned.j0 k t307 t308 t313 (!t321))) = some true := by rw [if_pos rfl] at H; first | done | exact H
      clear H
      have H := H1
      clear H1
      replace H := Option.bind_eq_some_iff.mp H
      obtain ⟨t321, A170, H⟩ := H
      replace H : (laws_FnAssigned.j0 k t307 t308 t313 (!t321)) = some true := H
      have A17 := uD A170
      clear A170
      have H' := uD H
      clear H
      go_wp2_with (first | (go_at_call 23; (with_reducible refine (spec_Assign.calls k _ _ t307 _ _ t308 t316 _ ?side1 ?side2 ?side3 ?side4 A11.out).mono ?_); (case side1 => repeat (first | exact (Kd.R_reads' HO310.out).2.2 | (with_reducible refine Kd.C_alloc ?_ _) | (with_reducible refine Kd.C_drewN ?_ _) | (with_reducible refine Kd.C_drew ?_))); (case side2 => exact (Kd.R_reads' HO310.out).2.1); (case side3 => repeat (first | exact (Kd.R_reads' HO312.out).2.2 | (with_reducible refine Kd.C_alloc ?_ _) | (with_reducible refine Kd.C_drewN ?_ _) | (with_reducible refine Kd.C_drew ?_))); (case side4 => exact (Kd.R_reads' HO312.out).2.1); rintro e w18 ⟨v317, rfl, ho0, hb⟩; replace HO310 := uD (Kd.R_below (pr HO310) hb); replace HO312 := uD (Kd.R_below (pr HO312) hb); have HO318 := uD (Kd.R_lower (Kd.R_new' ho0 (Kd.R_lt (pr HO315))) (uN (pb HB))); replace HO315 := uD (Kd.R_elder' (pr HO315) (Kd.R_base ho0) hb); replace HB := uD (uO (pb HB) hb); (try clear hb); (try clear hb2); (try clear hk); (try clear hi); (try clear ho0); obtain ⟨Ao19, co19, eo19⟩ := Kd.R_slice HO315.out; subst eo19; obtain ⟨Ao20, co20, eo20⟩ := Kd.R_slice HO318.out; subst eo20) | (go_at_call 36; (with_reducible refine (laws_sameInts.calls k _ _ t313 _ _ t316 true _ ?side1 ?side2 ?side3 ?side4 A12.out).mono ?_); (case side1 => repeat (first | exact (Kd.R_reads' HO315.out).2.2 | (with_reducible refine Kd.C_alloc ?_ _) | (with_reducible refine Kd.C_drewN ?_ _) | (with_reducible refine Kd.C_drew ?_))); (case side2 => exact (Kd.R_reads' HO315.out).2.1); (case side3 => repeat (first | exact (Kd.R_reads' HO318.out).2.2 | (with_reducible refine Kd.C_alloc ?_ _) | (with_reducible refine Kd.C_drewN ?_ _) | (with_reducible refine Kd.C_drew ?_))); (case side4 => exact (Kd.R_reads' HO318.out).2.1); rintro e w' ⟨rfl, ⟨nd, rfl⟩⟩; (try first | exact ⟨rfl, _, World.drewN_drewN _ _ _⟩ | exact ⟨rfl, _, Eq.trans (World.drewN_drewN _ _ _) (congrArg (World.drewN _) (Nat.add_assoc _ _ _))⟩)) | (go_at_call 16; (with_reducible refine (impl_ExpectOk.calls _ _ t307 true _ ?side1 ?side2 A15.out).mono ?_); (case side1 => repeat (first | exact (Kd.R_reads' HO310.out).2.2 | (with_reducible refine Kd.C_alloc ?_ _) | (with_reducible refine Kd.C_drewN ?_ _) | (with_reducible refine Kd.C_drew ?_))); (case side2 => exact (Kd.R_reads' HO310.out).2.1); rintro e w21 ⟨rfl, hb⟩; replace HO310 := uD (Kd.R_below (pr HO310) hb); replace HO312 := uD (Kd.R_below (pr HO312) hb); replace HO315 := uD (Kd.R_below (pr HO315) hb); replace HO318 := uD (Kd.R_below (pr HO318) hb); replace HB := uD (uO (pb HB) hb); (try clear hb); (try clear hb2); (try clear hk); (try clear hi)) | (go_at_call 21; (with_reducible refine (impl_SightsOk.calls k _ _ t308 t321 _ ?side1 ?side2 A17.out).mono ?_); (case side1 => repeat (first | exact (Kd.R_reads' HO312.out).2.2 | (with_reducible refine Kd.C_alloc ?_ _) | (with_reducible refine Kd.C_drewN ?_ _) | (with_reducible refine Kd.C_drew ?_))); (case side2 => exact (Kd.R_reads' HO312.out).2.1); rintro e w22 ⟨rfl, hb⟩; replace HO310 := uD (Kd.R_below (pr HO310) hb); replace HO312 := uD (Kd.R_below (pr HO312) hb); replace HO315 := uD (Kd.R_below (pr HO315) hb); replace HO318 := uD (Kd.R_below (pr HO318) hb); replace HB := uD (uO (pb HB) hb); (try clear hb); (try clear hb2); (try clear hk); (try clear hi)))
      repeat (go_quiet (first | (go_at_call 23; (with_reducible refine (spec_Assign.calls k _ _ t307 _ _ t308 t316 _ ?side1 ?side2 ?side3 ?side4 A11.out).mono ?_); (case side1 => repeat (first | exact (Kd.R_reads' HO310.out).2.2 | (with_reducible refine Kd.C_alloc ?_ _) | (with_reducible refine Kd.C_drewN ?_ _) | (with_reducible refine Kd.C_drew ?_))); (case side2 => exact (Kd.R_reads' HO310.out).2.1); (case side3 => repeat (first | exact (Kd.R_reads' HO312.out).2.2 | (with_reducible refine Kd.C_alloc ?_ _) | (with_reducible refine Kd.C_drewN ?_ _) | (with_reducible refine Kd.C_drew ?_))); (case side4 => exact (Kd.R_reads' HO312.out).2.1); rintro e w18 ⟨v317, rfl, ho0, hb⟩; replace HO310 := uD (Kd.R_below (pr HO310) hb); replace HO312 := uD (Kd.R_below (pr HO312) hb); have HO318 := uD (Kd.R_lower (Kd.R_new' ho0 (Kd.R_lt (pr HO315))) (uN (pb HB))); replace HO315 := uD (Kd.R_elder' (pr HO315) (Kd.R_base ho0) hb); replace HB := uD (uO (pb HB) hb); (try clear hb); (try clear hb2); (try clear hk); (try clear hi); (try clear ho0); obtain ⟨Ao19, co19, eo19⟩ := Kd.R_slice HO315.out; subst eo19; obtain ⟨Ao20, co20, eo20⟩ := Kd.R_slice HO318.out; subst eo20) | (go_at_call 36; (with_reducible refine (laws_sameInts.calls k _ _ t313 _ _ t316 true _ ?side1 ?side2 ?side3 ?side4 A12.out).mono ?_); (case side1 => repeat (first | exact (Kd.R_reads' HO315.out).2.2 | (with_reducible refine Kd.C_alloc ?_ _) | (with_reducible refine Kd.C_drewN ?_ _) | (with_reducible refine Kd.C_drew ?_))); (case side2 => exact (Kd.R_reads' HO315.out).2.1); (case side3 => repeat (first | exact (Kd.R_reads' HO318.out).2.2 | (with_reducible refine Kd.C_alloc ?_ _) | (with_reducible refine Kd.C_drewN ?_ _) | (with_reducible refine Kd.C_drew ?_))); (case side4 => exact (Kd.R_reads' HO318.out).2.1); rintro e w' ⟨rfl, ⟨nd, rfl⟩⟩; (try first | exact ⟨rfl, _, World.drewN_drewN _ _ _⟩ | exact ⟨rfl, _, Eq.trans (World.drewN_drewN _ _ _) (congrArg (World.drewN _) (Nat.add_assoc _ _ _))⟩)) | (go_at_call 16; (with_reducible refine (impl_ExpectOk.calls _ _ t307 true _ ?side1 ?side2 A15.out).mono ?_); (case side1 => repeat (first | exact (Kd.R_reads' HO310.out).2.2 | (with_reducible refine Kd.C_alloc ?_ _) | (with_reducible refine Kd.C_drewN ?_ _) | (with_reducible refine Kd.C_drew ?_))); (case side2 => exact (Kd.R_reads' HO310.out).2.1); rintro e w21 ⟨rfl, hb⟩; replace HO310 := uD (Kd.R_below (pr HO310) hb); replace HO312 := uD (Kd.R_below (pr HO312) hb); replace HO315 := uD (Kd.R_below (pr HO315) hb); replace HO318 := uD (Kd.R_below (pr HO318) hb); replace HB := uD (uO (pb HB) hb); (try clear hb); (try clear hb2); (try clear hk); (try clear hi)) | (go_at_call 21; (with_reducible refine (impl_SightsOk.calls k _ _ t308 t321 _ ?side1 ?side2 A17.out).mono ?_); (case side1 => repeat (first | exact (Kd.R_reads' HO312.out).2.2 | (with_reducible refine Kd.C_alloc ?_ _) | (with_reducible refine Kd.C_drewN ?_ _) | (with_reducible refine Kd.C_drew ?_))); (case side2 => exact (Kd.R_reads' HO312.out).2.1); rintro e w22 ⟨rfl, hb⟩; replace HO310 := uD (Kd.R_below (pr HO310) hb); replace HO312 := uD (Kd.R_below (pr HO312) hb); replace HO315 := uD (Kd.R_below (pr HO315) hb); replace HO318 := uD (Kd.R_below (pr HO318) hb); replace HB := uD (uO (pb HB) hb); (try clear hb); (try clear hb2); (try clear hk); (try clear hi))); try go_wp2_with (first | (go_at_call 23; (with_reducible refine (spec_Assign.calls k _ _ t307 _ _ t308 t316 _ ?side1 ?side2 ?side3 ?side4 A11.out).mono ?_); (case side1 => repeat (first | exact (Kd.R_reads' HO310.out).2.2 | (with_reducible refine Kd.C_alloc ?_ _) | (with_reducible refine Kd.C_drewN ?_ _) | (with_reducible refine Kd.C_drew ?_))); (case side2 => exact (Kd.R_reads' HO310.out).2.1); (case side3 => repeat (first | exact (Kd.R_reads' HO312.out).2.2 | (with_reducible refine Kd.C_alloc ?_ _) | (with_reducible refine Kd.C_drewN ?_ _) | (with_reducible refine Kd.C_drew ?_))); (case side4 => exact (Kd.R_reads' HO312.out).2.1); rintro e w18 ⟨v317, rfl, ho0, hb⟩; replace HO310 := uD (Kd.R_below (pr HO310) hb); replace HO312 := uD (Kd.R_below (pr HO312) hb); have HO318 := uD (Kd.R_lower (Kd.R_new' ho0 (Kd.R_lt (pr HO315))) (uN (pb HB))); replace HO315 := uD (Kd.R_elder' (pr HO315) (Kd.R_base ho0) hb); replace HB := uD (uO (pb HB) hb); (try clear hb); (try clear hb2); (try clear hk); (try clear hi); (try clear ho0); obtain ⟨Ao19, co19, eo19⟩ := Kd.R_slice HO315.out; subst eo19; obtain ⟨Ao20, co20, eo20⟩ := Kd.R_slice HO318.out; subst eo20) | (go_at_call 36; (with_reducible refine (laws_sameInts.calls k _ _ t313 _ _ t316 true _ ?side1 ?side2 ?side3 ?side4 A12.out).mono ?_); (case side1 => repeat (first | exact (Kd.R_reads' HO315.out).2.2 | (with_reducible refine Kd.C_alloc ?_ _) | (with_reducible refine Kd.C_drewN ?_ _) | (with_reducible refine Kd.C_drew ?_))); (case side2 => exact (Kd.R_reads' HO315.out).2.1); (case side3 => repeat (first | exact (Kd.R_reads' HO318.out).2.2 | (with_reducible refine Kd.C_alloc ?_ _) | (with_reducible refine Kd.C_drewN ?_ _) | (with_reducible refine Kd.C_drew ?_))); (case side4 => exact (Kd.R_reads' HO318.out).2.1); rintro e w' ⟨rfl, ⟨nd, rfl⟩⟩; (try first | exact ⟨rfl, _, World.drewN_drewN _ _ _⟩ | exact ⟨rfl, _, Eq.trans (World.drewN_drewN _ _ _) (congrArg (World.drewN _) (Nat.add_assoc _ _ _))⟩)) | (go_at_call 16; (with_reducible refine (impl_ExpectOk.calls _ _ t307 true _ ?side1 ?side2 A15.out).mono ?_); (case side1 => repeat (first | exact (Kd.R_reads' HO310.out).2.2 | (with_reducible refine Kd.C_alloc ?_ _) | (with_reducible refine Kd.C_drewN ?_ _) | (with_reducible refine Kd.C_drew ?_))); (case side2 => exact (Kd.R_reads' HO310.out).2.1); rintro e w21 ⟨rfl, hb⟩; replace HO310 := uD (Kd.R_below (pr HO310) hb); replace HO312 := uD (Kd.R_below (pr HO312) hb); replace HO315 := uD (Kd.R_below (pr HO315) hb); replace HO318 := uD (Kd.R_below (pr HO318) hb); replace HB := uD (uO (pb HB) hb); (try clear hb); (try clear hb2); (try clear hk); (try clear hi)) | (go_at_call 21; (with_reducible refine (impl_SightsOk.calls k _ _ t308 t321 _ ?side1 ?side2 A17.out).mono ?_); (case side1 => repeat (first | exact (Kd.R_reads' HO312.out).2.2 | (with_reducible refine Kd.C_alloc ?_ _) | (with_reducible refine Kd.C_drewN ?_ _) | (with_reducible refine Kd.C_drew ?_))); (case side2 => exact (Kd.R_reads' HO312.out).2.1); rintro e w22 ⟨rfl, hb⟩; replace HO310 := uD (Kd.R_below (pr HO310) hb); replace HO312 := uD (Kd.R_below (pr HO312) hb); replace HO315 := uD (Kd.R_below (pr HO315) hb); replace HO318 := uD (Kd.R_below (pr HO318) hb); replace HB := uD (uO (pb HB) hb); (try clear hb); (try clear hb2); (try clear hk); (try clear hi))))
      go_meet
      case rel => exact ⟨_, (!t321), (by first | rfl | (simp; done) | (simp [*]; done)), H', ⟨by first | omega | exact Nat.le_refl _⟩, ⟨by (with_reducible repeat (first | apply uU | apply uS | apply uT)); exact HO310.out⟩, ⟨by (with_reducible repeat (first | apply uU | apply uS | apply uT)); exact HO312.out⟩, ⟨by (with_reducible repeat (first | apply uU | apply uS | apply uT)); exact uX HO315.out (fun _ hk => trivial)⟩, ⟨pb HB⟩⟩
     ·replace c16 := Bool.eq_false_iff.mpr c16
      subst c16
      have H1 : (laws_FnAssigned.j0 k t307 t308 t313 true) = some true := by rw [if_neg (show ¬ (false = true) by decide)] at H; first | done | exact H
      clear H
      have H := H1
      clear H1
      exact absurd H (by cases k <;> simp [laws_FnAssigned.j0])
    ·rw [if_neg c14] at H
     have c14b0 : ((t313.length : Int) == (t308.length : Int)) = false := beq_eq_false_iff_ne.mpr c14
     have c14b1 : ((t313.length : Int) != (t308.length : Int)) = true := bne_iff_ne.mpr c14
     have c14b2 : (t313.length == t308.length) = false := by first | simpa using c14 | (simp at c14 ⊢; omega)
     (first | rw [c14b0] | (simp only [uZ, ua]; rw [c14b0]) | skip)
     exact absurd H (by cases k <;> simp [laws_FnAssigned.j0])
   ·replace c13 := Bool.eq_false_iff.mpr c13
    subst c13
    have H1 : (laws_FnAssigned.j0 k t307 t308 t313 true) = some true := by rw [if_neg (show ¬ (false = true) by decide)] at H; first | done | exact H
    clear H
    have H := H1
    clear H1
    exact absurd H (by cases k <;> simp [laws_FnAssigned.j0])
  case rest =>
   clear HC6
   try clear c1
   try clear p2
   try clear c3
   try clear c9
   try clear c13
   try clear c14
   try clear c14b0
   try clear c14b1
   try clear c14b2
   try clear c16
   obtain ⟨kq, x43_5, rfl, HA, HJ5, HO_3, HO_4, HO_5, HB⟩ := hcut
   cases kq with
   | zero => exact absurd HA.out (by simp [laws_FnAssigned.j0])
   | succ kj5 =>
    have H := HA.out
    clear HA
    simp only [laws_FnAssigned.j0] at H
    by_cases c23 : x43_5 = true
    ·subst c23
     have H1 : (some false) = some true := by rw [if_pos rfl] at H; first | done | exact H
     clear H
     have H := H1
     clear H1
     exact absurd H (by simp)
    ·replace c23 := Bool.eq_false_iff.mpr c23
     subst c23
     have H1 : (laws_FnAssigned.l0 kj5 t307 t308 t313 0 0) = some true := by rw [if_neg (show ¬ (false = true) by decide)] at H; first | done | exact H
     clear H
     have H := H1
     clear H1
     have H' := uD H
     clear H
     go_wp2
     repeat (go_quiet (fail); try go_wp2)
     go_loopg [6, 7] kj5 (fun kq v6 v7 w' => ∃ (x6_2 : Int) (x7_2 : Int), v6 = .int .i64 x6_2 ∧ v7 = .int .i64 x7_2 ∧ Aside0 (laws_FnAssigned.l0 kq t307 t308 t313 x6_2 x7_2 = some true) ∧ Aside0 (kq ≤ kj5) ∧ Aside0 (Kd.R k47 47 w' w.heap.size (fun _ => True) (.slice Ao8 t307.length co8) t307) ∧ Aside0 (Kd.R k49 49 w' w.heap.size (fun _ => True) (.slice Ao9 t308.length co9) t308) ∧ Aside0 (Kd.R (Kd.int .i64) 3 w' w.heap.size (fun _ => True) v314 t313) ∧ Aside0 (Below w.heap.size w w'))
     case atStart => exact ⟨(0), (0), (by first | rfl | (simp; done) | (simp [*]; done)), (by first | rfl | (simp; done) | (simp [*]; done)), H', ⟨Nat.le_refl _⟩, ⟨by (with_reducible repeat (first | apply uU | apply uS | apply uT)); exact HO_3.out⟩, ⟨by (with_reducible repeat (first | apply uU | apply uS | apply uT)); exact HO_4.out⟩, ⟨by (with_reducible repeat (first | apply uU | apply uS | apply uT)); exact HO_5.out⟩, ⟨pb HB⟩⟩
     case round =>
      clear H'
      try clear c1
      try clear c2
      try clear p2
      try clear c3
      try clear c9
      try clear c13
      try clear c14
      try clear c14b0
      try clear c14b1
      try clear c14b2
      try clear c16
      try clear c23
      try clear p2
      obtain ⟨x6_2, x7_2, rfl, rfl, HA, HK2, HO_3, HO_4, HO_5, HB⟩ := hrel
      cases gk with
      | zero => exact absurd HA.out (by simp [laws_FnAssigned.l0])
      | succ k2 =>
       have H := HA.out
       clear HA
       simp only [laws_FnAssigned.l0] at H
       by_cases c24 : x7_2 < (t313.length : Int)
       ·rw [if_pos c24] at H
        have c24b0 : decide (x7_2 < (t313.length : Int)) = true := decide_eq_true c24
        clear c24
        by_cases c25 : 0 ≤ x7_2
        ·rw [if_pos c25] at H
         have c25b0 : decide (0 ≤ x7_2) = true := decide_eq_true c25
         clear c25
         by_cases c26 : x7_2 < (t308.length : Int)
         ·rw [if_pos c26] at H
          have c26b0 : decide (x7_2 < (t308.length : Int)) = true := decide_eq_true c26
          clear c26
          by_cases c27 : ((rd_T49 t308 x7_2).f1) = 0
          ·rw [if_pos c27] at H
           have c27b0 : (((rd_T49 t308 x7_2).f1) == 0) = true := beq_iff_eq.mpr c27
           have c27b1 : (((rd_T49 t308 x7_2).f1) != 0) = false := bne_eq_false_iff_eq.mpr c27
           clear c27
           by_cases c28 : (rd t313 x7_2) = 0
           ·rw [if_pos c28] at H
            have c28b0 : ((rd t313 x7_2) == 0) = true := beq_iff_eq.mpr c28
            have c28b1 : ((rd t313 x7_2) != 0) = false := bne_eq_false_iff_eq.mpr c28
            clear c28
            have H' := uD H
            clear H
            obtain ⟨Ao29, co29, eo29⟩ := Kd.R_slice HO_5.out
            subst eo29
            have p324 : 0 ≤ (x7_2 : Int) := of_decide_eq_true (by first | (with_reducible assumption) | assumption)
            have q324 : x7_2 < (t308.length : Int) := of_decide_eq_true (by first | (with_reducible assumption) | assumption)
            obtain ⟨ad324, e324, hx324_0, hx324_1⟩ := at_T49 (Kd.R_reads' HO_4.out).2.2 x7_2 p324 q324
            cases e324
            replace p324 := eq_true p324
            replace q324 := eq_true q324
            have p327 : 0 ≤ (x7_2 : Int) := of_decide_eq_true (by first | (with_reducible assumption) | assumption)
            have q327 : x7_2 < (t313.length : Int) := of_decide_eq_true (by first | (with_reducible assumption) | assumption)
            obtain ⟨ad327, e327, hx327_0⟩ := Kd.at_int (Kd.R_reads' HO_5.out).2.2 x7_2 p327 q327
            cases e327
            replace p327 := eq_true p327
            replace q327 := eq_true q327
            go_wp2
            repeat (go_quiet (fail); try go_wp2)
            go_roundg k2
            case measure => have := HJ5.out; have := HK2.out; omega
            case rel => exact ⟨(x6_2), (wrap64 (x7_2 + 1)), (by first | rfl | (simp; done) | (simp [*]; done)), (by first | rfl | (simp; done) | (simp [*]; done)), H', ⟨by have := HJ5.out; have := HK2.out; omega⟩, ⟨by (with_reducible repeat (first | apply uU | apply uS | apply uT)); exact HO_3.out⟩, ⟨by (with_reducible repeat (first | apply uU | apply uS | apply uT)); exact HO_4.out⟩, ⟨by (with_reducible repeat (first | apply uU | apply uS | apply uT)); exact HO_5.out⟩, ⟨pb HB⟩⟩
           ·rw [if_neg c28] at H
            have c28b0 : ((rd t313 x7_2) == 0) = false := beq_eq_false_iff_ne.mpr c28
            have c28b1 : ((rd t313 x7_2) != 0) = true := bne_iff_ne.mpr c28
            have H' := uD H
            clear H
            obtain ⟨Ao30, co30, eo30⟩ := Kd.R_slice HO_5.out
            subst eo30
            have p324 : 0 ≤ (x7_2 : Int) := of_decide_eq_true (by first | (with_reducible assumption) | assumption)
            have q324 : x7_2 < (t308.length : Int) := of_decide_eq_true (by first | (with_reducible assumption) | assumption)
            obtain ⟨ad324, e324, hx324_0, hx324_1⟩ := at_T49 (Kd.R_reads' HO_4.out).2.2 x7_2 p324 q324
            cases e324
            replace p324 := eq_true p324
            replace q324 := eq_true q324
            have p327 : 0 ≤ (x7_2 : Int) := of_decide_eq_true (by first | (with_reducible assumption) | assumption)
            have q327 : x7_2 < (t313.length : Int) := of_decide_eq_true (by first | (with_reducible assumption) | assumption)
            obtain ⟨ad327, e327, hx327_0⟩ := Kd.at_int (Kd.R_reads' HO_5.out).2.2 x7_2 p327 q327
            cases e327
            replace p327 := eq_true p327
            replace q327 := eq_true q327
            go_wp2
            repeat (go_quiet (fail); try go_wp2)
            go_loopg [8, 9] k2 (fun kq v8 v9 w' => ∃ (x8_3 : Bool) (x9_3 : Int), v8 = .bool x8_3 ∧ v9 = .int .i64 x9_3 ∧ Aside0 (laws_FnAssigned.l1 kq t307 t308 t313 (wrap64 (x6_2 + 1)) x7_2 x8_3 x9_3 = some true) ∧ Aside0 (kq ≤ k2) ∧ Aside0 (Kd.R k47 47 w' w.heap.size (fun _ => True) (.slice Ao8 t307.length co8) t307) ∧ Aside0 (Kd.R k49 49 w' w.heap.size (fun _ => True) (.slice (some ad324) t308.length co9) t308) ∧ Aside0 (Kd.R (Kd.int .i64) 3 w' w.heap.size (fun _ => True) (.slice (some ad327) t313.length co30) t313) ∧ Aside0 (Below w.heap.size w w'))
            case atStart => exact ⟨(false), (0), (by first | rfl | (simp; done) | (simp [*]; done)), (by first | rfl | (simp; done) | (simp [*]; done)), H', ⟨Nat.le_refl _⟩, ⟨by (with_reducible repeat (first | apply uU | apply uS | apply uT)); exact HO_3.out⟩, ⟨by (with_reducible repeat (first | apply uU | apply uS | apply uT)); exact HO_4.out⟩, ⟨by (with_reducible repeat (first | apply uU | apply uS | apply uT)); exact HO_5.out⟩, ⟨pb HB⟩⟩
            case round =>
             clear H'
             try clear c1
             try clear c2
             try clear p2
             try clear c3
             try clear p3
             try clear q3
             try clear hx3
             try clear p6
             try clear c9
             try clear c13
             try clear c14
             try clear c14b0
             try clear c14b1
             try clear c14b2
             try clear c16
             try clear c23
             try clear c24
             try clear c24b0
             try clear c25
             try clear c25b0
             try clear c26
             try clear c26b0
             try clear c27
             try clear c27b0
             try clear c27b1
             try clear c28
             try clear c28b0
             try clear c28b1
             try clear hx324_0
             try clear hx324_1
             try clear hx327_0
             try clear p2
             try clear p324
             try clear p327
             try clear q324
             try clear q327
             obtain ⟨x8_3, x9_3, rfl, rfl, HA, HK3, HO_3, HO_4, HO_5, HB⟩ := hrel
             cases gk with
             | zero => exact absurd HA.out (by simp [laws_FnAssigned.l1])
             | succ k3 =>
              have H := HA.out
              clear HA
              simp only [laws_FnAssigned.l1] at H
              by_cases c31 : x9_3 < (t307.length : Int)
              ·rw [if_pos c31] at H
               have c31b0 : decide (x9_3 < (t307.length : Int)) = true := decide_eq_true c31
               clear c31
               by_cases c32 : x8_3 = true
               ·subst c32
                have H1 : (laws_FnAssigned.l1 k3 t307 t308 t313 (wrap64 (x6_2 + 1)) x7_2 true (wrap64 (x9_3 + 1))) = some true := by rw [if_pos rfl] at H; first | done | exact H
                clear H
                have H := H1
                clear H1
                have H' := uD H
                clear H
                go_wp2
                repeat (go_quiet (fail); try go_wp2)
                go_roundg k3
                case measure => have := HJ5.out; have := HK2.out; have := HK3.out; omega
                case rel => exact ⟨(true), (wrap64 (x9_3 + 1)), (by first | rfl | (simp; done) | (simp [*]; done)), (by first | rfl | (simp; done) | (simp [*]; done)), H', ⟨by have := HJ5.out; have := HK2.out; have := HK3.out; omega⟩, ⟨by (with_reducible repeat (first | apply uU | apply uS | apply uT)); exact HO_3.out⟩, ⟨by (with_reducible repeat (first | apply uU | apply uS | apply uT)); exact HO_4.out⟩, ⟨by (with_reducible repeat (first | apply uU | apply uS | apply uT)); exact HO_5.out⟩, ⟨pb HB⟩⟩
               ·replace c32 := Bool.eq_false_iff.mpr c32
                subst c32
                have H1 : (if 0 ≤ x9_3 then (if 0 ≤ x7_2 then (if x7_2 < (t313.length : Int) then (if ((rd_T47 t307 x9_3).f0) = (rd t313 x7_2) then (if x7_2 < (t308.length : Int) then (if ((rd_T47 t307 x9_3).f1) ≤ ((rd_T49 t308 x7_2).f0) then (laws_FnAssigned.l1 k3 t307 t308 t313 (wrap64 (x6_2 + 1)) x7_2 (decide (((rd_T47 t307 x9_3).f2) ≥ ((rd_T49 t308 x7_2).f0))) (wrap64 (x9_3 + 1))) else (laws_FnAssigned.l1 k3 t307 t308 t313 (wrap64 (x6_2 + 1)) x7_2 false (wrap64 (x9_3 + 1)))) else (none)) else (laws_FnAssigned.l1 k3 t307 t308 t313 (wrap64 (x6_2 + 1)) x7_2 false (wrap64 (x9_3 + 1)))) else (none)) else (none)) else (none)) = some true := by rw [if_neg (show ¬ (false = true) by decide)] at H; first | done | exact H
                clear H
                have H := H1
                clear H1
                by_cases c33 : 0 ≤ x9_3
                ·rw [if_pos c33] at H
                 have c33b0 : decide (0 ≤ x9_3) = true := decide_eq_true c33
                 clear c33
                 by_cases c34 : 0 ≤ x7_2
                 ·rw [if_pos c34] at H
                  have c34b0 : decide (0 ≤ x7_2) = true := decide_eq_true c34
                  clear c34
                  (try simp [c34b0] at c25b0)
                  by_cases c35 : x7_2 < (t313.length : Int)
                  ·rw [if_pos c35] at H
                   have c35b0 : decide (x7_2 < (t313.length : Int)) = true := decide_eq_true c35
                   clear c35
                   (try simp [c35b0] at c24b0)
                   by_cases c36 : ((rd_T47 t307 x9_3).f0) = (rd t313 x7_2)
                   ·rw [if_pos c36] at H
                    have c36b0 : (((rd_T47 t307 x9_3).f0) == (rd t313 x7_2)) = true := beq_iff_eq.mpr c36
                    have c36b1 : (((rd_T47 t307 x9_3).f0) != (rd t313 x7_2)) = false := bne_eq_false_iff_eq.mpr c36
                    clear c36
                    by_cases c37 : x7_2 < (t308.length : Int)
                    ·rw [if_pos c37] at H
                     have c37b0 : decide (x7_2 < (t308.length : Int)) = true := decide_eq_true c37
                     clear c37
                     (try simp [c37b0] at c26b0)
                     by_cases c38 : ((rd_T47 t307 x9_3).f1) ≤ ((rd_T49 t308 x7_2).f0)
                     ·rw [if_pos c38] at H
                      have c38b0 : decide (((rd_T47 t307 x9_3).f1) ≤ ((rd_T49 t308 x7_2).f0)) = true := decide_eq_true c38
                      clear c38
                      have H' := uD H
                      clear H
                      have p328 : 0 ≤ (x9_3 : Int) := of_decide_eq_true (by first | (with_reducible assumption) | assumption)
                      have q328 : x9_3 < (t307.length : Int) := of_decide_eq_true (by first | (with_reducible assumption) | assumption)
                      obtain ⟨ad328, e328, hx328_0, hx328_1, hx328_2⟩ := at_T47 (Kd.R_reads' HO_3.out).2.2 x9_3 p328 q328
                      cases e328
                      replace p328 := eq_true p328
                      replace q328 := eq_true q328
                      have p329 : 0 ≤ (x7_2 : Int) := of_decide_eq_true (by first | (with_reducible assumption) | assumption)
                      have q329 : x7_2 < (t313.length : Int) := of_decide_eq_true (by first | (with_reducible assumption) | assumption)
                      obtain ⟨ad329, e329, hx329_0⟩ := Kd.at_int (Kd.R_reads' HO_5.out).2.2 x7_2 p329 q329
                      obtain rfl : ad327 = ad329 := (by injection e329)
                      replace p329 := eq_true p329
                      replace q329 := eq_true q329
                      have p330 : 0 ≤ (x9_3 : Int) := of_decide_eq_true (by first | (with_reducible assumption) | assumption)
                      have q330 : x9_3 < (t307.length : Int) := of_decide_eq_true (by first | (with_reducible assumption) | assumption)
                      obtain ⟨ad330, e330, hx330_0, hx330_1, hx330_2⟩ := at_T47 (Kd.R_reads' HO_3.out).2.2 x9_3 p330 q330
                      obtain rfl : ad328 = ad330 := (by injection e330)
                      replace p330 := eq_true p330
                      replace q330 := eq_true q330
                      have p331 : 0 ≤ (x7_2 : Int) := of_decide_eq_true (by first | (with_reducible assumption) | assumption)
                      have q331 : x7_2 < (t308.length : Int) := of_decide_eq_true (by first | (with_reducible assumption) | assumption)
                      obtain ⟨ad331, e331, hx331_0, hx331_1⟩ := at_T49 (Kd.R_reads' HO_4.out).2.2 x7_2 p331 q331
                      obtain rfl : ad324 = ad331 := (by injection e331)
                      replace p331 := eq_true p331
                      replace q331 := eq_true q331
                      have p332 : 0 ≤ (x9_3 : Int) := of_decide_eq_true (by first | (with_reducible assumption) | assumption)
                      have q332 : x9_3 < (t307.length : Int) := of_decide_eq_true (by first | (with_reducible assumption) | assumption)
                      obtain ⟨ad332, e332, hx332_0, hx332_1, hx332_2⟩ := at_T47 (Kd.R_reads' HO_3.out).2.2 x9_3 p332 q332
                      obtain rfl : ad328 = ad332 := (by injection e332)
                      replace p332 := eq_true p332
                      replace q332 := eq_true q332
                      have p333 : 0 ≤ (x7_2 : Int) := of_decide_eq_true (by first | (with_reducible assumption) | assumption)
                      have q333 : x7_2 < (t308.length : Int) := of_decide_eq_true (by first | (with_reducible assumption) | assumption)
                      obtain ⟨ad333, e333, hx333_0, hx333_1⟩ := at_T49 (Kd.R_reads' HO_4.out).2.2 x7_2 p333 q333
                      obtain rfl : ad324 = ad333 := (by injection e333)
                      replace p333 := eq_true p333
                      replace q333 := eq_true q333
                      go_wp2
                      repeat (go_quiet (fail); try go_wp2)
                      go_roundg k3
                      case measure => have := HJ5.out; have := HK2.out; have := HK3.out; omega
                      case rel => exact ⟨(decide (((rd_T47 t307 x9_3).f2) ≥ ((rd_T49 t308 x7_2).f0))), (wrap64 (x9_3 + 1)), (by first | rfl | (simp; done) | (simp [*]; done)), (by first | rfl | (simp; done) | (simp [*]; done)), H', ⟨by have := HJ5.out; have := HK2.out; have := HK3.out; omega⟩, ⟨by (with_reducible repeat (first | apply uU | apply uS | apply uT)); exact HO_3.out⟩, ⟨by (with_reducible repeat (first | apply uU | apply uS | apply uT)); exact HO_4.out⟩, ⟨by (with_reducible repeat (first | apply uU | apply uS | apply uT)); exact HO_5.out⟩, ⟨pb HB⟩⟩
                     ·rw [if_neg c38] at H
                      have c38b0 : decide (((rd_T47 t307 x9_3).f1) ≤ ((rd_T49 t308 x7_2).f0)) = false := decide_eq_false c38
                      clear c38
                      have H' := uD H
                      clear H
                      have p328 : 0 ≤ (x9_3 : Int) := of_decide_eq_true (by first | (with_reducible assumption) | assumption)
                      have q328 : x9_3 < (t307.length : Int) := of_decide_eq_true (by first | (with_reducible assumption) | assumption)
                      obtain ⟨ad328, e328, hx328_0, hx328_1, hx328_2⟩ := at_T47 (Kd.R_reads' HO_3.out).2.2 x9_3 p328 q328
                      cases e328
                      replace p328 := eq_true p328
                      replace q328 := eq_true q328
                      have p329 : 0 ≤ (x7_2 : Int) := of_decide_eq_true (by first | (with_reducible assumption) | assumption)
                      have q329 : x7_2 < (t313.length : Int) := of_decide_eq_true (by first | (with_reducible assumption) | assumption)
                      obtain ⟨ad329, e329, hx329_0⟩ := Kd.at_int (Kd.R_reads' HO_5.out).2.2 x7_2 p329 q329
                      obtain rfl : ad327 = ad329 := (by injection e329)
                      replace p329 := eq_true p329
                      replace q329 := eq_true q329
                      have p330 : 0 ≤ (x9_3 : Int) := of_decide_eq_true (by first | (with_reducible assumption) | assumption)
                      have q330 : x9_3 < (t307.length : Int) := of_decide_eq_true (by first | (with_reducible assumption) | assumption)
                      obtain ⟨ad330, e330, hx330_0, hx330_1, hx330_2⟩ := at_T47 (Kd.R_reads' HO_3.out).2.2 x9_3 p330 q330
                      obtain rfl : ad328 = ad330 := (by injection e330)
                      replace p330 := eq_true p330
                      replace q330 := eq_true q330
                      have p331 : 0 ≤ (x7_2 : Int) := of_decide_eq_true (by first | (with_reducible assumption) | assumption)
                      have q331 : x7_2 < (t308.length : Int) := of_decide_eq_true (by first | (with_reducible assumption) | assumption)
                      obtain ⟨ad331, e331, hx331_0, hx331_1⟩ := at_T49 (Kd.R_reads' HO_4.out).2.2 x7_2 p331 q331
                      obtain rfl : ad324 = ad331 := (by injection e331)
                      replace p331 := eq_true p331
                      replace q331 := eq_true q331
                      go_wp2
                      repeat (go_quiet (fail); try go_wp2)
                      go_roundg k3
                      case measure => have := HJ5.out; have := HK2.out; have := HK3.out; omega
                      case rel => exact ⟨(false), (wrap64 (x9_3 + 1)), (by first | rfl | (simp; done) | (simp [*]; done)), (by first | rfl | (simp; done) | (simp [*]; done)), H', ⟨by have := HJ5.out; have := HK2.out; have := HK3.out; omega⟩, ⟨by (with_reducible repeat (first | apply uU | apply uS | apply uT)); exact HO_3.out⟩, ⟨by (with_reducible repeat (first | apply uU | apply uS | apply uT)); exact HO_4.out⟩, ⟨by (with_reducible repeat (first | apply uU | apply uS | apply uT)); exact HO_5.out⟩, ⟨pb HB⟩⟩
                    ·rw [if_neg c37] at H
                     exact absurd H (by simp)
                   ·rw [if_neg c36] at H
                    have c36b0 : (((rd_T47 t307 x9_3).f0) == (rd t313 x7_2)) = false := beq_eq_false_iff_ne.mpr c36
                    have c36b1 : (((rd_T47 t307 x9_3).f0) != (rd t313 x7_2)) = true := bne_iff_ne.mpr c36
                    have H' := uD H
                    clear H
                    have p328 : 0 ≤ (x9_3 : Int) := of_decide_eq_true (by first | (with_reducible assumption) | assumption)
                    have q328 : x9_3 < (t307.length : Int) := of_decide_eq_true (by first | (with_reducible assumption) | assumption)
                    obtain ⟨ad328, e328, hx328_0, hx328_1, hx328_2⟩ := at_T47 (Kd.R_reads' HO_3.out).2.2 x9_3 p328 q328
                    cases e328
                    replace p328 := eq_true p328
                    replace q328 := eq_true q328
                    have p329 : 0 ≤ (x7_2 : Int) := of_decide_eq_true (by first | (with_reducible assumption) | assumption)
                    have q329 : x7_2 < (t313.length : Int) := of_decide_eq_true (by first | (with_reducible assumption) | assumption)
                    obtain ⟨ad329, e329, hx329_0⟩ := Kd.at_int (Kd.R_reads' HO_5.out).2.2 x7_2 p329 q329
                    obtain rfl : ad327 = ad329 := (by injection e329)
                    replace p329 := eq_true p329
                    replace q329 := eq_true q329
                    go_wp2
                    repeat (go_quiet (fail); try go_wp2)
                    go_roundg k3
                    case measure => have := HJ5.out; have := HK2.out; have := HK3.out; omega
                    case rel => exact ⟨(false), (wrap64 (x9_3 + 1)), (by first | rfl | (simp; done) | (simp [*]; done)), (by first | rfl | (simp; done) | (simp [*]; done)), H', ⟨by have := HJ5.out; have := HK2.out; have := HK3.out; omega⟩, ⟨by (with_reducible repeat (first | apply uU | apply uS | apply uT)); exact HO_3.out⟩, ⟨by (with_reducible repeat (first | apply uU | apply uS | apply uT)); exact HO_4.out⟩, ⟨by (with_reducible repeat (first | apply uU | apply uS | apply uT)); exact HO_5.out⟩, ⟨pb HB⟩⟩
                  ·rw [if_neg c35] at H
                   exact absurd H (by simp)
                 ·rw [if_neg c34] at H
                  exact absurd H (by simp)
                ·rw [if_neg c33] at H
                 exact absurd H (by simp)
              ·rw [if_neg c31] at H
               have c31b0 : decide (x9_3 < (t307.length : Int)) = false := decide_eq_false c31
               clear c31
               have H' := uD H
               clear H
               go_wp2
               repeat (go_quiet (fail); try go_wp2)
               go_loopg [10] k3 (fun kq v10 w' => ∃ (x10_4 : Int), v10 = .int .i64 x10_4 ∧ Aside0 (laws_FnAssigned.l2 kq t307 t308 t313 (wrap64 (x6_2 + 1)) x7_2 x8_3 x10_4 = some true) ∧ Aside0 (kq ≤ k3) ∧ Aside0 (Kd.R k47 47 w' w.heap.size (fun _ => True) (.slice Ao8 t307.length co8) t307) ∧ Aside0 (Kd.R k49 49 w' w.heap.size (fun _ => True) (.slice (some ad324) t308.length co9) t308) ∧ Aside0 (Kd.R (Kd.int .i64) 3 w' w.heap.size (fun _ => True) (.slice (some ad327) t313.length co30) t313) ∧ Aside0 (Below w.heap.size w w'))
               case atStart => exact ⟨(0), (by first | rfl | (simp; done) | (simp [*]; done)), H', ⟨Nat.le_refl _⟩, ⟨by (with_reducible repeat (first | apply uU | apply uS | apply uT)); exact HO_3.out⟩, ⟨by (with_reducible repeat (first | apply uU | apply uS | apply uT)); exact HO_4.out⟩, ⟨by (with_reducible repeat (first | apply uU | apply uS | apply uT)); exact HO_5.out⟩, ⟨pb HB⟩⟩
               case round =>
                clear H'
                try clear c1
                try clear c2
                try clear p2
                try clear c3
                try clear p3
                try clear q3
                try clear hx3
                try clear p6
                try clear c9
                try clear c13
                try clear c14
                try clear c14b0
                try clear c14b1
                try clear c14b2
                try clear c16
                try clear c23
                try clear c24
                try clear c24b0
                try clear c25
                try clear c25b0
                try clear c26
                try clear c26b0
                try clear c27
                try clear c27b0
                try clear c27b1
                try clear c28
                try clear c28b0
                try clear c28b1
                try clear c31
                try clear c31b0
                try clear c32
                try clear p32
                try clear q32
                try clear hx32
                try clear c33
                try clear c33b0
                try clear p33
                try clear q33
                try clear hx33
                try clear c34
                try clear c34b0
                try clear c35
                try clear c35b0
                try clear c36
                try clear c36b0
                try clear c36b1
                try clear c37
                try clear c37b0
                try clear c38
                try clear c38b0
                try clear hx324_0
                try clear hx324_1
                try clear hx327_0
                try clear hx328_0
                try clear hx328_1
                try clear hx328_2
                try clear hx329_0
                try clear hx330_0
                try clear hx330_1
                try clear hx330_2
                try clear hx331_0
                try clear hx331_1
                try clear hx332_0
                try clear hx332_1
                try clear hx332_2
                try clear hx333_0
                try clear hx333_1
                try clear p2
                try clear p3
                try clear p324
                try clear p327
                try clear p328
                try clear p329
                try clear p330
                try clear p331
                try clear p332
                try clear p333
                try clear p6
                try clear q3
                try clear q324
                try clear q327
                try clear q328
                try clear q329
                try clear q330
                try clear q331
                try clear q332
                try clear q333
                obtain ⟨x10_4, rfl, HA, HK4, HO_3, HO_4, HO_5, HB⟩ := hrel
                cases gk with
                | zero => exact absurd HA.out (by simp [laws_FnAssigned.l2])
                | succ k4 =>
                 have H := HA.out
                 clear HA
                 simp only [laws_FnAssigned.l2] at H
                 by_cases c39 : x10_4 < (t313.length : Int)
                 ·rw [if_pos c39] at H
                  have c39b0 : decide (x10_4 < (t313.length : Int)) = true := decide_eq_true c39
                  clear c39
                  by_cases c40 : x10_4 = x7_2
                  ·rw [if_pos c40] at H
                   have c40b0 : (x10_4 == x7_2) = true := beq_iff_eq.mpr c40
                   have c40b1 : (x10_4 != x7_2) = false := bne_eq_false_iff_eq.mpr c40
                   clear c40
                   have H' := uD H
                   clear H
                   go_wp2
                   repeat (go_quiet (fail); try go_wp2)
                   go_roundg k4
                   case measure => have := HJ5.out; have := HK2.out; have := HK3.out; have := HK4.out; omega
                   case rel => exact ⟨(wrap64 (x10_4 + 1)), (by first | rfl | (simp; done) | (simp [*]; done)), H', ⟨by have := HJ5.out; have := HK2.out; have := HK3.out; have := HK4.out; omega⟩, ⟨by (with_reducible repeat (first | apply uU | apply uS | apply uT)); exact HO_3.out⟩, ⟨by (with_reducible repeat (first | apply uU | apply uS | apply uT)); exact HO_4.out⟩, ⟨by (with_reducible repeat (first | apply uU | apply uS | apply uT)); exact HO_5.out⟩, ⟨pb HB⟩⟩
                  ·rw [if_neg c40] at H
                   have c40b0 : (x10_4 == x7_2) = false := beq_eq_false_iff_ne.mpr c40
                   have c40b1 : (x10_4 != x7_2) = true := bne_iff_ne.mpr c40
                   by_cases c41 : 0 ≤ x10_4
                   ·rw [if_pos c41] at H
                    have c41b0 : decide (0 ≤ x10_4) = true := decide_eq_true c41
                    clear c41
                    by_cases c42 : 0 ≤ x7_2
                    ·rw [if_pos c42] at H
                     have c42b0 : decide (0 ≤ x7_2) = true := decide_eq_true c42
                     clear c42
                     (try simp [c42b0] at c25b0)
                     by_cases c43 : x7_2 < (t313.length : Int)
                     ·rw [if_pos c43] at H
                      have c43b0 : decide (x7_2 < (t313.length : Int)) = true := decide_eq_true c43
                      clear c43
                      (try simp [c43b0] at c24b0)
                      by_cases c44 : (rd t313 x10_4) = (rd t313 x7_2)
                      ·rw [if_pos c44] at H
                       have c44b0 : ((rd t313 x10_4) == (rd t313 x7_2)) = true := beq_iff_eq.mpr c44
                       have c44b1 : ((rd t313 x10_4) != (rd t313 x7_2)) = false := bne_eq_false_iff_eq.mpr c44
                       clear c44
                       exact absurd H (by simp)
                      ·rw [if_neg c44] at H
                       have c44b0 : ((rd t313 x10_4) == (rd t313 x7_2)) = false := beq_eq_false_iff_ne.mpr c44
                       have c44b1 : ((rd t313 x10_4) != (rd t313 x7_2)) = true := bne_iff_ne.mpr c44
                       have H' := uD H
                       clear H
                       have p334 : 0 ≤ (x10_4 : Int) := of_decide_eq_true (by first | (with_reducible assumption) | assumption)
                       have q334 : x10_4 < (t313.length : Int) := of_decide_eq_true (by first | (with_reducible assumption) | assumption)
                       obtain ⟨ad334, e334, hx334_0⟩ := Kd.at_int (Kd.R_reads' HO_5.out).2.2 x10_4 p334 q334
                       obtain rfl : ad327 = ad334 := (by injection e334)
                       replace p334 := eq_true p334
                       replace q334 := eq_true q334
                       have p335 : 0 ≤ (x7_2 : Int) := of_decide_eq_true (by first | (with_reducible assumption) | assumption)
                       have q335 : x7_2 < (t313.length : Int) := of_decide_eq_true (by first | (with_reducible assumption) | assumption)
                       obtain ⟨ad335, e335, hx335_0⟩ := Kd.at_int (Kd.R_reads' HO_5.out).2.2 x7_2 p335 q335
                       obtain rfl : ad327 = ad335 := (by injection e335)
                       replace p335 := eq_true p335
                       replace q335 := eq_true q335
                       go_wp2
                       repeat (go_quiet (fail); try go_wp2)
                       go_roundg k4
                       case measure => have := HJ5.out; have := HK2.out; have := HK3.out; have := HK4.out; omega
                       case rel => exact ⟨(wrap64 (x10_4 + 1)), (by first | rfl | (simp; done) | (simp [*]; done)), H', ⟨by have := HJ5.out; have := HK2.out; have := HK3.out; have := HK4.out; omega⟩, ⟨by (with_reducible repeat (first | apply uU | apply uS | apply uT)); exact HO_3.out⟩, ⟨by (with_reducible repeat (first | apply uU | apply uS | apply uT)); exact HO_4.out⟩, ⟨by (with_reducible repeat (first | apply uU | apply uS | apply uT)); exact HO_5.out⟩, ⟨pb HB⟩⟩
                     ·rw [if_neg c43] at H
                      exact absurd H (by simp)
                    ·rw [if_neg c42] at H
                     exact absurd H (by simp)
                   ·rw [if_neg c41] at H
                    exact absurd H (by simp)
                 ·rw [if_neg c39] at H
                  have c39b0 : decide (x10_4 < (t313.length : Int)) = false := decide_eq_false c39
                  clear c39
                  by_cases c45 : x8_3 = true
                  ·subst c45
                   have H1 : (laws_FnAssigned.l0 k4 t307 t308 t313 (wrap64 (x6_2 + 1)) (wrap64 (x7_2 + 1))) = some true := by rw [if_pos rfl] at H; first | done | exact H
                   clear H
                   have H := H1
                   clear H1
                   have H' := uD H
                   clear H
                   go_wp2
                   repeat (go_quiet (fail); try go_wp2)
                   go_roundg k4
                   case measure => have := HJ5.out; have := HK2.out; have := HK3.out; have := HK4.out; omega
                   case rel => exact ⟨((wrap64 (x6_2 + 1))), (wrap64 (x7_2 + 1)), (by first | rfl | (simp; done) | (simp [*]; done)), (by first | rfl | (simp; done) | (simp [*]; done)), H', ⟨by have := HJ5.out; have := HK2.out; have := HK3.out; have := HK4.out; omega⟩, ⟨by (with_reducible repeat (first | apply uU | apply uS | apply uT)); exact HO_3.out⟩, ⟨by (with_reducible repeat (first | apply uU | apply uS | apply uT)); exact HO_4.out⟩, ⟨by (with_reducible repeat (first | apply uU | apply uS | apply uT)); exact HO_5.out⟩, ⟨pb HB⟩⟩
                  ·replace c45 := Bool.eq_false_iff.mpr c45
                   subst c45
                   have H1 : (some false) = some true := by rw [if_neg (show ¬ (false = true) by decide)] at H; first | done | exact H
                   clear H
                   have H := H1
                   clear H1
                   exact absurd H (by simp)
          ·rw [if_neg c27] at H
           have c27b0 : (((rd_T49 t308 x7_2).f1) == 0) = false := beq_eq_false_iff_ne.mpr c27
           have c27b1 : (((rd_T49 t308 x7_2).f1) != 0) = true := bne_iff_ne.mpr c27
           by_cases c46 : (rd t313 x7_2) = ((rd_T49 t308 x7_2).f1)
           ·rw [if_pos c46] at H
            have c46b0 : ((rd t313 x7_2) == ((rd_T49 t308 x7_2).f1)) = true := beq_iff_eq.mpr c46
            have c46b1 : ((rd t313 x7_2) != ((rd_T49 t308 x7_2).f1)) = false := bne_eq_false_iff_eq.mpr c46
            clear c46
            have H' := uD H
            clear H
            obtain ⟨Ao47, co47, eo47⟩ := Kd.R_slice HO_5.out
            subst eo47
            have p324 : 0 ≤ (x7_2 : Int) := of_decide_eq_true (by first | (with_reducible assumption) | assumption)
            have q324 : x7_2 < (t308.length : Int) := of_decide_eq_true (by first | (with_reducible assumption) | assumption)
            obtain ⟨ad324, e324, hx324_0, hx324_1⟩ := at_T49 (Kd.R_reads' HO_4.out).2.2 x7_2 p324 q324
            cases e324
            replace p324 := eq_true p324
            replace q324 := eq_true q324
            have p325 : 0 ≤ (x7_2 : Int) := of_decide_eq_true (by first | (with_reducible assumption) | assumption)
            have q325 : x7_2 < (t313.length : Int) := of_decide_eq_true (by first | (with_reducible assumption) | assumption)
            obtain ⟨ad325, e325, hx325_0⟩ := Kd.at_int (Kd.R_reads' HO_5.out).2.2 x7_2 p325 q325
            cases e325
            replace p325 := eq_true p325
            replace q325 := eq_true q325
            have p326 : 0 ≤ (x7_2 : Int) := of_decide_eq_true (by first | (with_reducible assumption) | assumption)
            have q326 : x7_2 < (t308.length : Int) := of_decide_eq_true (by first | (with_reducible assumption) | assumption)
            obtain ⟨ad326, e326, hx326_0, hx326_1⟩ := at_T49 (Kd.R_reads' HO_4.out).2.2 x7_2 p326 q326
            obtain rfl : ad324 = ad326 := (by injection e326)
            replace p326 := eq_true p326
            replace q326 := eq_true q326
            go_wp2
            repeat (go_quiet (fail); try go_wp2)
            go_roundg k2
            case measure => have := HJ5.out; have := HK2.out; omega
            case rel => exact ⟨(x6_2), (wrap64 (x7_2 + 1)), (by first | rfl | (simp; done) | (simp [*]; done)), (by first | rfl | (simp; done) | (simp [*]; done)), H', ⟨by have := HJ5.out; have := HK2.out; omega⟩, ⟨by (with_reducible repeat (first | apply uU | apply uS | apply uT)); exact HO_3.out⟩, ⟨by (with_reducible repeat (first | apply uU | apply uS | apply uT)); exact HO_4.out⟩, ⟨by (with_reducible repeat (first | apply uU | apply uS | apply uT)); exact HO_5.out⟩, ⟨pb HB⟩⟩
           ·rw [if_neg c46] at H
            have c46b0 : ((rd t313 x7_2) == ((rd_T49 t308 x7_2).f1)) = false := beq_eq_false_iff_ne.mpr c46
            have c46b1 : ((rd t313 x7_2) != ((rd_T49 t308 x7_2).f1)) = true := bne_iff_ne.mpr c46
            exact absurd H (by simp)
         ·rw [if_neg c26] at H
          exact absurd H (by simp)
        ·rw [if_neg c25] at H
         exact absurd H (by simp)
       ·rw [if_neg c24] at H
        have c24b0 : decide (x7_2 < (t313.length : Int)) = false := decide_eq_false c24
        clear c24
        replace H := Option.bind_eq_some_iff.mp H
        obtain ⟨t322, A480, H⟩ := H
        replace H : (if x6_2 = t322 then ((spec_MostAssigned.f k2 t307 t308).bind fun t323 => (some (x6_2 == t323))) else (some false)) = some true := H
        have A48 := uD A480
        clear A480
        by_cases c49 : x6_2 = t322
        ·rw [if_pos c49] at H
         have c49b0 : (x6_2 == t322) = true := beq_iff_eq.mpr c49
         have c49b1 : (x6_2 != t322) = false := bne_eq_false_iff_eq.mpr c49
         clear c49
         replace H := Option.bind_eq_some_iff.mp H
         obtain ⟨t323, A500, H⟩ := H
         replace H : (some (x6_2 == t323)) = some true := H
         have A50 := uD A500
         clear A500
         have HT := Option.some.inj H
         clear H
         obtain ⟨Ao51, co51, eo51⟩ := Kd.R_slice HO_5.out
         subst eo51
         go_wp2_with (first | (go_at_call 33; (with_reducible refine (impl_MostAssigned.calls k2 _ _ t307 _ _ t308 t322 _ ?side1 ?side2 ?side3 ?side4 A48.out).mono ?_); (case side1 => repeat (first | exact (Kd.R_reads' HO_3.out).2.2 | (with_reducible refine Kd.C_alloc ?_ _) | (with_reducible refine Kd.C_drewN ?_ _) | (with_reducible refine Kd.C_drew ?_))); (case side2 => exact (Kd.R_reads' HO_3.out).2.1); (case side3 => repeat (first | exact (Kd.R_reads' HO_4.out).2.2 | (with_reducible refine Kd.C_alloc ?_ _) | (with_reducible refine Kd.C_drewN ?_ _) | (with_reducible refine Kd.C_drew ?_))); (case side4 => exact (Kd.R_reads' HO_4.out).2.1); rintro e w52 ⟨rfl, hb⟩; replace HO_3 := uD (Kd.R_below (pr HO_3) hb); replace HO_4 := uD (Kd.R_below (pr HO_4) hb); replace HO_5 := uD (Kd.R_below (pr HO_5) hb); replace HB := uD (uO (pb HB) hb); (try clear hb); (try clear hb2); (try clear hk); (try clear hi)) | (go_at_call 32; (with_reducible refine (spec_MostAssigned.calls k2 _ _ t307 _ _ t308 t323 _ ?side1 ?side2 ?side3 ?side4 A50.out).mono ?_); (case side1 => repeat (first | exact (Kd.R_reads' HO_3.out).2.2 | (with_reducible refine Kd.C_alloc ?_ _) | (with_reducible refine Kd.C_drewN ?_ _) | (with_reducible refine Kd.C_drew ?_))); (case side2 => exact (Kd.R_reads' HO_3.out).2.1); (case side3 => repeat (first | exact (Kd.R_reads' HO_4.out).2.2 | (with_reducible refine Kd.C_alloc ?_ _) | (with_reducible refine Kd.C_drewN ?_ _) | (with_reducible refine Kd.C_drew ?_))); (case side4 => exact (Kd.R_reads' HO_4.out).2.1); rintro e w53 ⟨rfl, hb⟩; replace HO_3 := uD (Kd.R_below (pr HO_3) hb); replace HO_4 := uD (Kd.R_below (pr HO_4) hb); replace HO_5 := uD (Kd.R_below (pr HO_5) hb); replace HB := uD (uO (pb HB) hb); (try clear hb); (try clear hb2); (try clear hk); (try clear hi)))
         repeat (go_quiet (first | (go_at_call 33; (with_reducible refine (impl_MostAssigned.calls k2 _ _ t307 _ _ t308 t322 _ ?side1 ?side2 ?side3 ?side4 A48.out).mono ?_); (case side1 => repeat (first | exact (Kd.R_reads' HO_3.out).2.2 | (with_reducible refine Kd.C_alloc ?_ _) | (with_reducible refine Kd.C_drewN ?_ _) | (with_reducible refine Kd.C_drew ?_))); (case side2 => exact (Kd.R_reads' HO_3.out).2.1); (case side3 => repeat (first | exact (Kd.R_reads' HO_4.out).2.2 | (with_reducible refine Kd.C_alloc ?_ _) | (with_reducible refine Kd.C_drewN ?_ _) | (with_reducible refine Kd.C_drew ?_))); (case side4 => exact (Kd.R_reads' HO_4.out).2.1); rintro e w52 ⟨rfl, hb⟩; replace HO_3 := uD (Kd.R_below (pr HO_3) hb); replace HO_4 := uD (Kd.R_below (pr HO_4) hb); replace HO_5 := uD (Kd.R_below (pr HO_5) hb); replace HB := uD (uO (pb HB) hb); (try clear hb); (try clear hb2); (try clear hk); (try clear hi)) | (go_at_call 32; (with_reducible refine (spec_MostAssigned.calls k2 _ _ t307 _ _ t308 t323 _ ?side1 ?side2 ?side3 ?side4 A50.out).mono ?_); (case side1 => repeat (first | exact (Kd.R_reads' HO_3.out).2.2 | (with_reducible refine Kd.C_alloc ?_ _) | (with_reducible refine Kd.C_drewN ?_ _) | (with_reducible refine Kd.C_drew ?_))); (case side2 => exact (Kd.R_reads' HO_3.out).2.1); (case side3 => repeat (first | exact (Kd.R_reads' HO_4.out).2.2 | (with_reducible refine Kd.C_alloc ?_ _) | (with_reducible refine Kd.C_drewN ?_ _) | (with_reducible refine Kd.C_drew ?_))); (case side4 => exact (Kd.R_reads' HO_4.out).2.1); rintro e w53 ⟨rfl, hb⟩; replace HO_3 := uD (Kd.R_below (pr HO_3) hb); replace HO_4 := uD (Kd.R_below (pr HO_4) hb); replace HO_5 := uD (Kd.R_below (pr HO_5) hb); replace HB := uD (uO (pb HB) hb); (try clear hb); (try clear hb2); (try clear hk); (try clear hi))); try go_wp2_with (first | (go_at_call 33; (with_reducible refine (impl_MostAssigned.calls k2 _ _ t307 _ _ t308 t322 _ ?side1 ?side2 ?side3 ?side4 A48.out).mono ?_); (case side1 => repeat (first | exact (Kd.R_reads' HO_3.out).2.2 | (with_reducible refine Kd.C_alloc ?_ _) | (with_reducible refine Kd.C_drewN ?_ _) | (with_reducible refine Kd.C_drew ?_))); (case side2 => exact (Kd.R_reads' HO_3.out).2.1); (case side3 => repeat (first | exact (Kd.R_reads' HO_4.out).2.2 | (with_reducible refine Kd.C_alloc ?_ _) | (with_reducible refine Kd.C_drewN ?_ _) | (with_reducible refine Kd.C_drew ?_))); (case side4 => exact (Kd.R_reads' HO_4.out).2.1); rintro e w52 ⟨rfl, hb⟩; replace HO_3 := uD (Kd.R_below (pr HO_3) hb); replace HO_4 := uD (Kd.R_below (pr HO_4) hb); replace HO_5 := uD (Kd.R_below (pr HO_5) hb); replace HB := uD (uO (pb HB) hb); (try clear hb); (try clear hb2); (try clear hk); (try clear hi)) | (go_at_call 32; (with_reducible refine (spec_MostAssigned.calls k2 _ _ t307 _ _ t308 t323 _ ?side1 ?side2 ?side3 ?side4 A50.out).mono ?_); (case side1 => repeat (first | exact (Kd.R_reads' HO_3.out).2.2 | (with_reducible refine Kd.C_alloc ?_ _) | (with_reducible refine Kd.C_drewN ?_ _) | (with_reducible refine Kd.C_drew ?_))); (case side2 => exact (Kd.R_reads' HO_3.out).2.1); (case side3 => repeat (first | exact (Kd.R_reads' HO_4.out).2.2 | (with_reducible refine Kd.C_alloc ?_ _) | (with_reducible refine Kd.C_drewN ?_ _) | (with_reducible refine Kd.C_drew ?_))); (case side4 => exact (Kd.R_reads' HO_4.out).2.1); rintro e w53 ⟨rfl, hb⟩; replace HO_3 := uD (Kd.R_below (pr HO_3) hb); replace HO_4 := uD (Kd.R_below (pr HO_4) hb); replace HO_5 := uD (Kd.R_below (pr HO_5) hb); replace HB := uD (uO (pb HB) hb); (try clear hb); (try clear hb2); (try clear hk); (try clear hi))))
         go_ret
         exact ⟨by first | rfl | (simp [errW_none, errW_some] <;> rfl) | (simp [*, errW_none, errW_some] <;> rfl), pb HB⟩
        ·rw [if_neg c49] at H
         have c49b0 : (x6_2 == t322) = false := beq_eq_false_iff_ne.mpr c49
         have c49b1 : (x6_2 != t322) = true := bne_iff_ne.mpr c49
         exact absurd H (by simp)

/-- THE ONE PURE STATEMENT of laws_FnAssigned: yours. -/
def laws_FnAssigned.Pure : Prop := ∀ (l0 : List Int), l0.length ≤ maxLen → l0.length * 1 ≤ 140737488351232 → (∀ x ∈ l0, (Lit.int .u8 x).wf = true) → ∃ k, laws_FnAssigned.f k l0 = some true
theorem laws_FnAssigned.walk (P : laws_FnAssigned.Pure) (a0 : Option Addr) (len0 cap0 : Nat) (z0 : List Int) (w : World) (w0 : (a0 = none ∧ len0 = 0 ∧ cap0 = 0 ∧ z0 = []) ∨ ∃ x, a0 = some x ∧ len0 ≤ cap0 ∧ cap0 ≤ maxLen ∧ z0.length = cap0 ∧ (∀ i, i < z0.length → w.cell? (x.add i) = some (.int .u8 (z0.getD i 0))) ∧ ∀ n ∈ z0, (Lit.int .u8 n).wf = true) (y0 : len0 * 1 ≤ 140737488351232) :
  Calls Try.prog 9 #[.slice a0 len0 cap0] w fun e w' => e = .returned (.bool true) ∧ Below w.heap.size w w' := by
 obtain ⟨l0, rfl, hr0, hm0, hw0, hc0⟩ := ReadsInt.ofRowC w0
 obtain ⟨k, h⟩ := P l0 hm0 y0 hw0
 refine (laws_FnAssigned.calls k _ _ l0 w (Kd.C_of_reads (d := (0 : Int)) (h1 := fun _ => rfl) hr0) hc0 h).mono ?_
 rintro e w' ⟨rfl, hd⟩
 exact ⟨rfl, hd⟩

end Go.Proofs.Ytnnimbbffbfhoaa.PFnAssigned
