-- Written by a program of this session (wip/myprint.py: the kit's print with changes): not by print.sh itself.
import Derived.Test.YtnnimbbffbfhoaaPFnEveryTakingx0
import Derived.Test.YtnnimbbffbfhoaaPFnEveryTakingx1
import Derived.Test.YtnnimbbffbfhoaaPFnEveryTakingx2
import Derived.Test.YtnnimbbffbfhoaaPFnEveryTakingx5
import Derived.Test.YtnnimbbffbfhoaaPFnEveryTakingx7
namespace Go.Proofs.Ytnnimbbffbfhoaa.PFnEveryTaking
open Go.RowKit Go.Proofs.YtnnimbbffbfhoaaW.PrintWords Go.Proofs.YtnnimbbffbfhoaaW.PrintLast Go.Proofs.YtnnimbbffbfhoaaW.PrintMore
open Go.Proofs.YtnnimbbffbfhoaaW.PrintWords renaming Aside0.mk → uD, below_size → uN, below_step → uO, Kd.R_drewN → uS, Kd.R_drew → uT, Kd.R_alloc → uU
attribute [local go_sem] max2_int min2_int max_two min_two max_three min_three max_four min_four   -- for this text's walks alone
set_option linter.unusedVariables false
set_option linter.unusedSimpArgs false

/-! ### laws_FnEveryTaking: function 8 -/
mutual
def laws_FnEveryTaking.j0 : Nat → List (S47) → List (S49) → List Int → Bool → Option (Bool)
 | 0, _, _, _, _ => none
 | k + 1, x0, x1, x2, x29 => if x29 = true then (some true) else (laws_FnEveryTaking.l0 k x0 x1 x2 0 0)
def laws_FnEveryTaking.l0 : Nat → List (S47) → List (S49) → List Int → Int → Int → Option (Bool)
 | 0, _, _, _, _, _ => none
 | k + 1, x0, x1, x2, x7, x8 => if x8 < (x2.length : Int) then (if 0 ≤ x8 then (if (rd x2 x8) = 0 then (laws_FnEveryTaking.l0 k x0 x1 x2 x7 (wrap64 (x8 + 1))) else (laws_FnEveryTaking.l1 k x0 x1 x2 x7 x8 false 0)) else (none)) else ((impl_Assign.f k x0 x1).bind fun t160 => (if (t160.length : Int) = (x1.length : Int) then (laws_FnEveryTaking.l3 k x0 x1 x7 t160 0 0) else (some false)))
def laws_FnEveryTaking.l1 : Nat → List (S47) → List (S49) → List Int → Int → Int → Bool → Int → Option (Bool)
 | 0, _, _, _, _, _, _, _ => none
 | k + 1, x0, x1, x2, x7, x8, x9, x10 => if x10 < (x0.length : Int) then (if x9 = true then (laws_FnEveryTaking.l1 k x0 x1 x2 x7 x8 true (wrap64 (x10 + 1))) else (if 0 ≤ x10 then (if 0 ≤ x8 then (if x8 < (x2.length : Int) then (if ((rd_T47 x0 x10).f0) = (rd x2 x8) then (if x8 < (x1.length : Int) then (if ((rd_T47 x0 x10).f1) ≤ ((rd_T49 x1 x8).f0) then (laws_FnEveryTaking.l1 k x0 x1 x2 x7 x8 (decide (((rd_T47 x0 x10).f2) ≥ ((rd_T49 x1 x8).f0))) (wrap64 (x10 + 1))) else (laws_FnEveryTaking.l1 k x0 x1 x2 x7 x8 false (wrap64 (x10 + 1)))) else (none)) else (laws_FnEveryTaking.l1 k x0 x1 x2 x7 x8 false (wrap64 (x10 + 1)))) else (none)) else (none)) else (none))) else (laws_FnEveryTaking.l2 k x0 x1 x2 x7 x8 x9 0)
def laws_FnEveryTaking.l2 : Nat → List (S47) → List (S49) → List Int → Int → Int → Bool → Int → Option (Bool)
 | 0, _, _, _, _, _, _, _ => none
 | k + 1, x0, x1, x2, x7, x8, x9, x11 => if x11 < (x1.length : Int) then (if x9 = true then (if 0 ≤ x11 then (if 0 ≤ x8 then (if x8 < (x2.length : Int) then (if ((rd_T49 x1 x11).f1) = (rd x2 x8) then (laws_FnEveryTaking.l2 k x0 x1 x2 x7 x8 false (wrap64 (x11 + 1))) else (if x11 = x8 then (laws_FnEveryTaking.l2 k x0 x1 x2 x7 x8 true (wrap64 (x11 + 1))) else (if x11 < (x2.length : Int) then (laws_FnEveryTaking.l2 k x0 x1 x2 x7 x8 ((rd x2 x11) != (rd x2 x8)) (wrap64 (x11 + 1))) else (none)))) else (none)) else (none)) else (none)) else (laws_FnEveryTaking.l2 k x0 x1 x2 x7 x8 false (wrap64 (x11 + 1)))) else (if x9 = true then (if 0 ≤ x8 then (if x8 < (x1.length : Int) then (if ((rd_T49 x1 x8).f1) = 0 then (laws_FnEveryTaking.l0 k x0 x1 x2 (wrap64 (x7 + 1)) (wrap64 (x8 + 1))) else (some true)) else (none)) else (none)) else (some true))
def laws_FnEveryTaking.l3 : Nat → List (S47) → List (S49) → Int → List Int → Int → Int → Option (Bool)
 | 0, _, _, _, _, _, _ => none
 | k + 1, x0, x1, x7, x12, x13, x14 => if x14 < (x12.length : Int) then (if 0 ≤ x14 then (if x14 < (x1.length : Int) then (if ((rd_T49 x1 x14).f1) = 0 then (if (rd x12 x14) = 0 then (laws_FnEveryTaking.l3 k x0 x1 x7 x12 x13 (wrap64 (x14 + 1))) else (laws_FnEveryTaking.l3 k x0 x1 x7 x12 (wrap64 (x13 + 1)) (wrap64 (x14 + 1)))) else (laws_FnEveryTaking.l3 k x0 x1 x7 x12 x13 (wrap64 (x14 + 1)))) else (none)) else (none)) else (if x7 ≤ x13 then ((impl_MostAssigned.f k x0 x1).bind fun t165 => (some (x13 == t165))) else (some false))
end
def laws_FnEveryTaking.f (k : Nat) (l0 : List (S47)) (l1 : List (S49)) (l2 : List Int) : Option (Bool) := (spec_ExpectOk.f k l0).bind fun t146 => (if t146 = true then ((spec_SightsOk.f k l1).bind fun t147 => (if t147 = true then (laws_FnEveryTaking.j0 k l0 l1 l2 ((l2.length : Int) != (l1.length : Int))) else (laws_FnEveryTaking.j0 k l0 l1 l2 true))) else (laws_FnEveryTaking.j0 k l0 l1 l2 true))
theorem laws_FnEveryTaking.mono_l : ∀ k, (∀ y0 y1 y2 y3, LeO (laws_FnEveryTaking.j0 k y0 y1 y2 y3) (laws_FnEveryTaking.j0 (k + 1) y0 y1 y2 y3)) ∧ (∀ y0 y1 y2 y3 y4, LeO (laws_FnEveryTaking.l0 k y0 y1 y2 y3 y4) (laws_FnEveryTaking.l0 (k + 1) y0 y1 y2 y3 y4)) ∧ (∀ y0 y1 y2 y3 y4 y5 y6, LeO (laws_FnEveryTaking.l1 k y0 y1 y2 y3 y4 y5 y6) (laws_FnEveryTaking.l1 (k + 1) y0 y1 y2 y3 y4 y5 y6)) ∧ (∀ y0 y1 y2 y3 y4 y5 y6, LeO (laws_FnEveryTaking.l2 k y0 y1 y2 y3 y4 y5 y6) (laws_FnEveryTaking.l2 (k + 1) y0 y1 y2 y3 y4 y5 y6)) ∧ (∀ y0 y1 y2 y3 y4 y5, LeO (laws_FnEveryTaking.l3 k y0 y1 y2 y3 y4 y5) (laws_FnEveryTaking.l3 (k + 1) y0 y1 y2 y3 y4 y5))
 | 0 => ⟨fun _ _ _ _ r h => by simp [laws_FnEveryTaking.j0] at h, fun _ _ _ _ _ r h => by simp [laws_FnEveryTaking.l0] at h, fun _ _ _ _ _ _ _ r h => by simp [laws_FnEveryTaking.l1] at h, fun _ _ _ _ _ _ _ r h => by simp [laws_FnEveryTaking.l2] at h, fun _ _ _ _ _ _ r h => by simp [laws_FnEveryTaking.l3] at h⟩
 | k + 1 => by
  obtain ⟨ih0, ih1, ih2, ih3, ih4⟩ := laws_FnEveryTaking.mono_l k
  refine ⟨?_, ?_, ?_, ?_, ?_⟩
  ·intro y0 y1 y2 y3
   unfold laws_FnEveryTaking.j0
   repeat' first
   | (with_reducible exact ih0 _ _ _ _)
   | (with_reducible exact ih1 _ _ _ _ _)
   | (with_reducible exact ih2 _ _ _ _ _ _ _)
   | (with_reducible exact ih3 _ _ _ _ _ _ _)
   | (with_reducible exact ih4 _ _ _ _ _ _)
   | (with_reducible exact impl_Assign.mono _ _ _)
   | (with_reducible exact impl_MostAssigned.mono _ _ _)
   | (with_reducible exact spec_ExpectOk.mono _ _)
   | (with_reducible exact spec_SightsOk.mono _ _)
   | (with_reducible exact LeO.refl _)
   | (with_reducible exact LeO.none _)
   | (with_reducible refine LeO.ite ?_ ?_)
   | (with_reducible refine LeO.bind ?_ (fun _ => ?_))
   | exact ih0 _ _ _ _
   | exact ih1 _ _ _ _ _
   | exact ih2 _ _ _ _ _ _ _
   | exact ih3 _ _ _ _ _ _ _
   | exact ih4 _ _ _ _ _ _
   | exact impl_Assign.mono _ _ _
   | exact impl_MostAssigned.mono _ _ _
   | exact spec_ExpectOk.mono _ _
   | exact spec_SightsOk.mono _ _
   | exact LeO.none _
   | refine LeO.ite ?_ ?_
   | refine LeO.bind ?_ (fun _ => ?_)
  ·intro y0 y1 y2 y3 y4
   unfold laws_FnEveryTaking.l0
   repeat' first
   | (with_reducible exact ih0 _ _ _ _)
   | (with_reducible exact ih1 _ _ _ _ _)
   | (with_reducible exact ih2 _ _ _ _ _ _ _)
   | (with_reducible exact ih3 _ _ _ _ _ _ _)
   | (with_reducible exact ih4 _ _ _ _ _ _)
   | (with_reducible exact impl_Assign.mono _ _ _)
   | (with_reducible exact impl_MostAssigned.mono _ _ _)
   | (with_reducible exact spec_ExpectOk.mono _ _)
   | (with_reducible exact spec_SightsOk.mono _ _)
   | (with_reducible exact LeO.refl _)
   | (with_reducible exact LeO.none _)
   | (with_reducible refine LeO.ite ?_ ?_)
   | (with_reducible refine LeO.bind ?_ (fun _ => ?_))
   | exact ih0 _ _ _ _
   | exact ih1 _ _ _ _ _
   | exact ih2 _ _ _ _ _ _ _
   | exact ih3 _ _ _ _ _ _ _
   | exact ih4 _ _ _ _ _ _
   | exact impl_Assign.mono _ _ _
   | exact impl_MostAssigned.mono _ _ _
   | exact spec_ExpectOk.mono _ _
   | exact spec_SightsOk.mono _ _
   | exact LeO.none _
   | refine LeO.ite ?_ ?_
   | refine LeO.bind ?_ (fun _ => ?_)
  ·intro y0 y1 y2 y3 y4 y5 y6
   unfold laws_FnEveryTaking.l1
   repeat' first
   | (with_reducible exact ih0 _ _ _ _)
   | (with_reducible exact ih1 _ _ _ _ _)
   | (with_reducible exact ih2 _ _ _ _ _ _ _)
   | (with_reducible exact ih3 _ _ _ _ _ _ _)
   | (with_reducible exact ih4 _ _ _ _ _ _)
   | (with_reducible exact impl_Assign.mono _ _ _)
   | (with_reducible exact impl_MostAssigned.mono _ _ _)
   | (with_reducible exact spec_ExpectOk.mono _ _)
   | (with_reducible exact spec_SightsOk.mono _ _)
   | (with_reducible exact LeO.refl _)
   | (with_reducible exact LeO.none _)
   | (with_reducible refine LeO.ite ?_ ?_)
   | (with_reducible refine LeO.bind ?_ (fun _ => ?_))
   | exact ih0 _ _ _ _
   | exact ih1 _ _ _ _ _
   | exact ih2 _ _ _ _ _ _ _
   | exact ih3 _ _ _ _ _ _ _
   | exact ih4 _ _ _ _ _ _
   | exact impl_Assign.mono _ _ _
   | exact impl_MostAssigned.mono _ _ _
   | exact spec_ExpectOk.mono _ _
   | exact spec_SightsOk.mono _ _
   | exact LeO.none _
   | refine LeO.ite ?_ ?_
   | refine LeO.bind ?_ (fun _ => ?_)
  ·intro y0 y1 y2 y3 y4 y5 y6
   unfold laws_FnEveryTaking.l2
   repeat' first
   | (with_reducible exact ih0 _ _ _ _)
   | (with_reducible exact ih1 _ _ _ _ _)
   | (with_reducible exact ih2 _ _ _ _ _ _ _)
   | (with_reducible exact ih3 _ _ _ _ _ _ _)
   | (with_reducible exact ih4 _ _ _ _ _ _)
   | (with_reducible exact impl_Assign.mono _ _ _)
   | (with_reducible exact impl_MostAssigned.mono _ _ _)
   | (with_reducible exact spec_ExpectOk.mono _ _)
   | (with_reducible exact spec_SightsOk.mono _ _)
   | (with_reducible exact LeO.refl _)
   | (with_reducible exact LeO.none _)
   | (with_reducible refine LeO.ite ?_ ?_)
   | (with_reducible refine LeO.bind ?_ (fun _ => ?_))
   | exact ih0 _ _ _ _
   | exact ih1 _ _ _ _ _
   | exact ih2 _ _ _ _ _ _ _
   | exact ih3 _ _ _ _ _ _ _
   | exact ih4 _ _ _ _ _ _
   | exact impl_Assign.mono _ _ _
   | exact impl_MostAssigned.mono _ _ _
   | exact spec_ExpectOk.mono _ _
   | exact spec_SightsOk.mono _ _
   | exact LeO.none _
   | refine LeO.ite ?_ ?_
   | refine LeO.bind ?_ (fun _ => ?_)
  ·intro y0 y1 y2 y3 y4 y5
   unfold laws_FnEveryTaking.l3
   repeat' first
   | (with_reducible exact ih0 _ _ _ _)
   | (with_reducible exact ih1 _ _ _ _ _)
   | (with_reducible exact ih2 _ _ _ _ _ _ _)
   | (with_reducible exact ih3 _ _ _ _ _ _ _)
   | (with_reducible exact ih4 _ _ _ _ _ _)
   | (with_reducible exact impl_Assign.mono _ _ _)
   | (with_reducible exact impl_MostAssigned.mono _ _ _)
   | (with_reducible exact spec_ExpectOk.mono _ _)
   | (with_reducible exact spec_SightsOk.mono _ _)
   | (with_reducible exact LeO.refl _)
   | (with_reducible exact LeO.none _)
   | (with_reducible refine LeO.ite ?_ ?_)
   | (with_reducible refine LeO.bind ?_ (fun _ => ?_))
   | exact ih0 _ _ _ _
   | exact ih1 _ _ _ _ _
   | exact ih2 _ _ _ _ _ _ _
   | exact ih3 _ _ _ _ _ _ _
   | exact ih4 _ _ _ _ _ _
   | exact impl_Assign.mono _ _ _
   | exact impl_MostAssigned.mono _ _ _
   | exact spec_ExpectOk.mono _ _
   | exact spec_SightsOk.mono _ _
   | exact LeO.none _
   | refine LeO.ite ?_ ?_
   | refine LeO.bind ?_ (fun _ => ?_)
theorem laws_FnEveryTaking.mono : ∀ a0 a1 a2 k, LeO (laws_FnEveryTaking.f k a0 a1 a2) (laws_FnEveryTaking.f (k + 1) a0 a1 a2) := by
 intro a0 a1 a2 k
 obtain ⟨ih0, ih1, ih2, ih3, ih4⟩ := laws_FnEveryTaking.mono_l k
 unfold laws_FnEveryTaking.f
 repeat' first
   | (with_reducible exact ih0 _ _ _ _)
   | (with_reducible exact ih1 _ _ _ _ _)
   | (with_reducible exact ih2 _ _ _ _ _ _ _)
   | (with_reducible exact ih3 _ _ _ _ _ _ _)
   | (with_reducible exact ih4 _ _ _ _ _ _)
   | (with_reducible exact impl_Assign.mono _ _ _)
   | (with_reducible exact impl_MostAssigned.mono _ _ _)
   | (with_reducible exact spec_ExpectOk.mono _ _)
   | (with_reducible exact spec_SightsOk.mono _ _)
   | (with_reducible exact LeO.refl _)
   | (with_reducible exact LeO.none _)
   | (with_reducible refine LeO.ite ?_ ?_)
   | (with_reducible refine LeO.bind ?_ (fun _ => ?_))
   | exact ih0 _ _ _ _
   | exact ih1 _ _ _ _ _
   | exact ih2 _ _ _ _ _ _ _
   | exact ih3 _ _ _ _ _ _ _
   | exact ih4 _ _ _ _ _ _
   | exact impl_Assign.mono _ _ _
   | exact impl_MostAssigned.mono _ _ _
   | exact spec_ExpectOk.mono _ _
   | exact spec_SightsOk.mono _ _
   | exact LeO.none _
   | refine LeO.ite ?_ ?_
   | refine LeO.bind ?_ (fun _ => ?_)
set_option maxHeartbeats 8000000 in
set_option maxRecDepth 100000 in
theorem laws_FnEveryTaking.calls (k : Nat) (A0 : Option Addr) (c0 : Nat) (l0 : List (S47)) (A1 : Option Addr) (c1 : Nat) (l1 : List (S49)) (A2 : Option Addr) (c2 : Nat) (l2 : List Int) (w : World) (hr0 : Kd.C k47 w A0 l0.length l0) (hc0 : l0.length ≤ c0) (hr1 : Kd.C k49 w A1 l1.length l1) (hc1 : l1.length ≤ c1) (hr2 : Kd.C (Kd.int .i64) w A2 l2.length l2) (hc2 : l2.length ≤ c2) (h : laws_FnEveryTaking.f k l0 l1 l2 = some true) :
  Calls Try.prog 8 #[.slice A0 l0.length c0, .slice A1 l1.length c1, .slice A2 l2.length c2] w fun e w' => e = .returned (.bool true) ∧ Below w.heap.size w w' := by
 have HR0 := uD hr0
 have HC0 := uD hc0
 clear hr0 hc0
 have HR1 := uD hr1
 have HC1 := uD hc1
 clear hr1 hc1
 have HR2 := uD hr2
 have HC2 := uD hc2
 clear hr2 hc2
 have HB := uD (Below.refl w.heap.size w)
 have H : ((spec_ExpectOk.f k l0).bind fun t146 => (if t146 = true then ((spec_SightsOk.f k l1).bind fun t147 => (if t147 = true then (laws_FnEveryTaking.j0 k l0 l1 l2 ((l2.length : Int) != (l1.length : Int))) else (laws_FnEveryTaking.j0 k l0 l1 l2 true))) else (laws_FnEveryTaking.j0 k l0 l1 l2 true))) = some true := h
 clear h
 have HC4 := uD H
 clear H
 go_enter Try.func8, Try.ntmps8
 go_upto_region 1 with (fail)
 repeat (go_quiet (fail); go_upto_region 1 with (fail))
 go_cut [29] (fun v29 wc => ∃ (kq : Nat) (x29_3 : Bool), v29 = .bool x29_3 ∧ Aside0 (laws_FnEveryTaking.j0 kq l0 l1 l2 x29_3 = some true) ∧ Aside0 (kq ≤ k) ∧ Aside0 (Below w.heap.size w wc))
 case first =>
  have H := HC4.out
  clear HC4
  replace H := Option.bind_eq_some_iff.mp H
  obtain ⟨t146, A50, H⟩ := H
  replace H : (if t146 = true then ((spec_SightsOk.f k l1).bind fun t147 => (if t147 = true then (laws_FnEveryTaking.j0 k l0 l1 l2 ((l2.length : Int) != (l1.length : Int))) else (laws_FnEveryTaking.j0 k l0 l1 l2 true))) else (laws_FnEveryTaking.j0 k l0 l1 l2 true)) = some true := H
  have A5 := uD A50
  clear A50
  by_cases c6 : t146 = true
  ·subst c6
   have H1 : ((spec_SightsOk.f k l1).bind fun t147 => (if t147 = true then (laws_FnEveryTaking.j0 k l0 l1 l2 ((l2.length : Int) != (l1.length : Int))) else (laws_FnEveryTaking.j0 k l0 l1 l2 true))) = some true := by rw [if_pos rfl] at H; first | done | exact H
   clear H
   have H := H1
   clear H1
   replace H := Option.bind_eq_some_iff.mp H
   obtain ⟨t147, A70, H⟩ := H
   replace H : (if t147 = true then (laws_FnEveryTaking.j0 k l0 l1 l2 ((l2.length : Int) != (l1.length : Int))) else (laws_FnEveryTaking.j0 k l0 l1 l2 true)) = some true := H
   have A7 := uD A70
   clear A70
   by_cases c8 : t147 = true
   ·subst c8
    have H1 : (laws_FnEveryTaking.j0 k l0 l1 l2 ((l2.length : Int) != (l1.length : Int))) = some true := by rw [if_pos rfl] at H; first | done | exact H
    clear H
    have H := H1
    clear H1
    have H' := uD H
    clear H
    go_wp2_with (first | (go_at_call 14; (with_reducible refine (spec_ExpectOk.calls k _ _ l0 true _ ?side1 ?side2 A5.out).mono ?_); (case side1 => repeat (first | exact (Kd.C_below HR0.out HB.out) | (with_reducible refine Kd.C_alloc ?_ _) | (with_reducible refine Kd.C_drewN ?_ _) | (with_reducible refine Kd.C_drew ?_))); (case side2 => exact HC0.out); rintro e w' ⟨rfl, ⟨nd, rfl⟩⟩; (try first | exact ⟨rfl, _, World.drewN_drewN _ _ _⟩ | exact ⟨rfl, _, Eq.trans (World.drewN_drewN _ _ _) (congrArg (World.drewN _) (Nat.add_assoc _ _ _))⟩)) | (go_at_call 19; (with_reducible refine (spec_SightsOk.calls k _ _ l1 true _ ?side1 ?side2 A7.out).mono ?_); (case side1 => repeat (first | exact (Kd.C_below HR1.out (pb HB)) | (with_reducible refine Kd.C_alloc ?_ _) | (with_reducible refine Kd.C_drewN ?_ _) | (with_reducible refine Kd.C_drew ?_))); (case side2 => exact HC1.out); rintro e w9 ⟨rfl, hb⟩; replace HB := uD (uO (pb HB) hb); (try clear hb); (try clear hb2); (try clear hk); (try clear hi)))
    repeat (go_quiet (first | (go_at_call 14; (with_reducible refine (spec_ExpectOk.calls k _ _ l0 true _ ?side1 ?side2 A5.out).mono ?_); (case side1 => repeat (first | exact (Kd.C_below HR0.out HB.out) | (with_reducible refine Kd.C_alloc ?_ _) | (with_reducible refine Kd.C_drewN ?_ _) | (with_reducible refine Kd.C_drew ?_))); (case side2 => exact HC0.out); rintro e w' ⟨rfl, ⟨nd, rfl⟩⟩; (try first | exact ⟨rfl, _, World.drewN_drewN _ _ _⟩ | exact ⟨rfl, _, Eq.trans (World.drewN_drewN _ _ _) (congrArg (World.drewN _) (Nat.add_assoc _ _ _))⟩)) | (go_at_call 19; (with_reducible refine (spec_SightsOk.calls k _ _ l1 true _ ?side1 ?side2 A7.out).mono ?_); (case side1 => repeat (first | exact (Kd.C_below HR1.out (pb HB)) | (with_reducible refine Kd.C_alloc ?_ _) | (with_reducible refine Kd.C_drewN ?_ _) | (with_reducible refine Kd.C_drew ?_))); (case side2 => exact HC1.out); rintro e w9 ⟨rfl, hb⟩; replace HB := uD (uO (pb HB) hb); (try clear hb); (try clear hb2); (try clear hk); (try clear hi))); try go_wp2_with (first | (go_at_call 14; (with_reducible refine (spec_ExpectOk.calls k _ _ l0 true _ ?side1 ?side2 A5.out).mono ?_); (case side1 => repeat (first | exact (Kd.C_below HR0.out HB.out) | (with_reducible refine Kd.C_alloc ?_ _) | (with_reducible refine Kd.C_drewN ?_ _) | (with_reducible refine Kd.C_drew ?_))); (case side2 => exact HC0.out); rintro e w' ⟨rfl, ⟨nd, rfl⟩⟩; (try first | exact ⟨rfl, _, World.drewN_drewN _ _ _⟩ | exact ⟨rfl, _, Eq.trans (World.drewN_drewN _ _ _) (congrArg (World.drewN _) (Nat.add_assoc _ _ _))⟩)) | (go_at_call 19; (with_reducible refine (spec_SightsOk.calls k _ _ l1 true _ ?side1 ?side2 A7.out).mono ?_); (case side1 => repeat (first | exact (Kd.C_below HR1.out (pb HB)) | (with_reducible refine Kd.C_alloc ?_ _) | (with_reducible refine Kd.C_drewN ?_ _) | (with_reducible refine Kd.C_drew ?_))); (case side2 => exact HC1.out); rintro e w9 ⟨rfl, hb⟩; replace HB := uD (uO (pb HB) hb); (try clear hb); (try clear hb2); (try clear hk); (try clear hi))))
    go_meet
    case rel => exact ⟨_, (((l2.length : Int) != (l1.length : Int))), (by first | rfl | (simp; done) | (simp [*]; done)), H', ⟨by first | omega | exact Nat.le_refl _⟩, ⟨pb HB⟩⟩
   ·replace c8 := Bool.eq_false_iff.mpr c8
    subst c8
    have H1 : (laws_FnEveryTaking.j0 k l0 l1 l2 true) = some true := by rw [if_neg (show ¬ (false = true) by decide)] at H; first | done | exact H
    clear H
    have H := H1
    clear H1
    have H' := uD H
    clear H
    go_wp2_with (first | (go_at_call 14; (with_reducible refine (spec_ExpectOk.calls k _ _ l0 true _ ?side1 ?side2 A5.out).mono ?_); (case side1 => repeat (first | exact (Kd.C_below HR0.out HB.out) | (with_reducible refine Kd.C_alloc ?_ _) | (with_reducible refine Kd.C_drewN ?_ _) | (with_reducible refine Kd.C_drew ?_))); (case side2 => exact HC0.out); rintro e w' ⟨rfl, ⟨nd, rfl⟩⟩; (try first | exact ⟨rfl, _, World.drewN_drewN _ _ _⟩ | exact ⟨rfl, _, Eq.trans (World.drewN_drewN _ _ _) (congrArg (World.drewN _) (Nat.add_assoc _ _ _))⟩)) | (go_at_call 19; (with_reducible refine (spec_SightsOk.calls k _ _ l1 false _ ?side1 ?side2 A7.out).mono ?_); (case side1 => repeat (first | exact (Kd.C_below HR1.out (pb HB)) | (with_reducible refine Kd.C_alloc ?_ _) | (with_reducible refine Kd.C_drewN ?_ _) | (with_reducible refine Kd.C_drew ?_))); (case side2 => exact HC1.out); rintro e w10 ⟨rfl, hb⟩; replace HB := uD (uO (pb HB) hb); (try clear hb); (try clear hb2); (try clear hk); (try clear hi)))
    repeat (go_quiet (first | (go_at_call 14; (with_reducible refine (spec_ExpectOk.calls k _ _ l0 true _ ?side1 ?side2 A5.out).mono ?_); (case side1 => repeat (first | exact (Kd.C_below HR0.out HB.out) | (with_reducible refine Kd.C_alloc ?_ _) | (with_reducible refine Kd.C_drewN ?_ _) | (with_reducible refine Kd.C_drew ?_))); (case side2 => exact HC0.out); rintro e w' ⟨rfl, ⟨nd, rfl⟩⟩; (try first | exact ⟨rfl, _, World.drewN_drewN _ _ _⟩ | exact ⟨rfl, _, Eq.trans (World.drewN_drewN _ _ _) (congrArg (World.drewN _) (Nat.add_assoc _ _ _))⟩)) | (go_at_call 19; (with_reducible refine (spec_SightsOk.calls k _ _ l1 false _ ?side1 ?side2 A7.out).mono ?_); (case side1 => repeat (first | exact (Kd.C_below HR1.out (pb HB)) | (with_reducible refine Kd.C_alloc ?_ _) | (with_reducible refine Kd.C_drewN ?_ _) | (with_reducible refine Kd.C_drew ?_))); (case side2 => exact HC1.out); rintro e w10 ⟨rfl, hb⟩; replace HB := uD (uO (pb HB) hb); (try clear hb); (try clear hb2); (try clear hk); (try clear hi))); try go_wp2_with (first | (go_at_call 14; (with_reducible refine (spec_ExpectOk.calls k _ _ l0 true _ ?side1 ?side2 A5.out).mono ?_); (case side1 => repeat (first | exact (Kd.C_below HR0.out HB.out) | (with_reducible refine Kd.C_alloc ?_ _) | (with_reducible refine Kd.C_drewN ?_ _) | (with_reducible refine Kd.C_drew ?_))); (case side2 => exact HC0.out); rintro e w' ⟨rfl, ⟨nd, rfl⟩⟩; (try first | exact ⟨rfl, _, World.drewN_drewN _ _ _⟩ | exact ⟨rfl, _, Eq.trans (World.drewN_drewN _ _ _) (congrArg (World.drewN _) (Nat.add_assoc _ _ _))⟩)) | (go_at_call 19; (with_reducible refine (spec_SightsOk.calls k _ _ l1 false _ ?side1 ?side2 A7.out).mono ?_); (case side1 => repeat (first | exact (Kd.C_below HR1.out (pb HB)) | (with_reducible refine Kd.C_alloc ?_ _) | (with_reducible refine Kd.C_drewN ?_ _) | (with_reducible refine Kd.C_drew ?_))); (case side2 => exact HC1.out); rintro e w10 ⟨rfl, hb⟩; replace HB := uD (uO (pb HB) hb); (try clear hb); (try clear hb2); (try clear hk); (try clear hi))))
    go_meet
    case rel => exact ⟨_, (true), (by first | rfl | (simp; done) | (simp [*]; done)), H', ⟨by first | omega | exact Nat.le_refl _⟩, ⟨pb HB⟩⟩
  ·replace c6 := Bool.eq_false_iff.mpr c6
   subst c6
   have H1 : (laws_FnEveryTaking.j0 k l0 l1 l2 true) = some true := by rw [if_neg (show ¬ (false = true) by decide)] at H; first | done | exact H
   clear H
   have H := H1
   clear H1
   have H' := uD H
   clear H
   go_wp2_with (first | (go_at_call 14; (with_reducible refine (spec_ExpectOk.calls k _ _ l0 false _ ?side1 ?side2 A5.out).mono ?_); (case side1 => repeat (first | exact (Kd.C_below HR0.out HB.out) | (with_reducible refine Kd.C_alloc ?_ _) | (with_reducible refine Kd.C_drewN ?_ _) | (with_reducible refine Kd.C_drew ?_))); (case side2 => exact HC0.out); rintro e w' ⟨rfl, ⟨nd, rfl⟩⟩; (try first | exact ⟨rfl, _, World.drewN_drewN _ _ _⟩ | exact ⟨rfl, _, Eq.trans (World.drewN_drewN _ _ _) (congrArg (World.drewN _) (Nat.add_assoc _ _ _))⟩)))
   repeat (go_quiet (first | (go_at_call 14; (with_reducible refine (spec_ExpectOk.calls k _ _ l0 false _ ?side1 ?side2 A5.out).mono ?_); (case side1 => repeat (first | exact (Kd.C_below HR0.out HB.out) | (with_reducible refine Kd.C_alloc ?_ _) | (with_reducible refine Kd.C_drewN ?_ _) | (with_reducible refine Kd.C_drew ?_))); (case side2 => exact HC0.out); rintro e w' ⟨rfl, ⟨nd, rfl⟩⟩; (try first | exact ⟨rfl, _, World.drewN_drewN _ _ _⟩ | exact ⟨rfl, _, Eq.trans (World.drewN_drewN _ _ _) (congrArg (World.drewN _) (Nat.add_assoc _ _ _))⟩))); try go_wp2_with (first | (go_at_call 14; (with_reducible refine (spec_ExpectOk.calls k _ _ l0 false _ ?side1 ?side2 A5.out).mono ?_); (case side1 => repeat (first | exact (Kd.C_below HR0.out HB.out) | (with_reducible refine Kd.C_alloc ?_ _) | (with_reducible refine Kd.C_drewN ?_ _) | (with_reducible refine Kd.C_drew ?_))); (case side2 => exact HC0.out); rintro e w' ⟨rfl, ⟨nd, rfl⟩⟩; (try first | exact ⟨rfl, _, World.drewN_drewN _ _ _⟩ | exact ⟨rfl, _, Eq.trans (World.drewN_drewN _ _ _) (congrArg (World.drewN _) (Nat.add_assoc _ _ _))⟩))))
   go_meet
   case rel => exact ⟨_, (true), (by first | rfl | (simp; done) | (simp [*]; done)), H', ⟨by first | omega | exact Nat.le_refl _⟩, ⟨pb HB⟩⟩
 case rest =>
  clear HC4
  try clear c1
  try clear c2
  try clear p2
  try clear c6
  try clear c8
  obtain ⟨kq, x29_3, rfl, HA, HJ3, HB⟩ := hcut
  cases kq with
  | zero => exact absurd HA.out (by simp [laws_FnEveryTaking.j0])
  | succ kj3 =>
   have H := HA.out
   clear HA
   simp only [laws_FnEveryTaking.j0] at H
   by_cases c11 : x29_3 = true
   ·subst c11
    have H1 : (some true) = some true := by rw [if_pos rfl] at H; first | done | exact H
    clear H
    have H := H1
    clear H1
    have HT := Option.some.inj H
    clear H
    go_wp2
    repeat (go_quiet (fail); try go_wp2)
    go_ret
    exact ⟨by first | rfl | (simp [errW_none, errW_some] <;> rfl) | (simp [*, errW_none, errW_some] <;> rfl), pb HB⟩
   ·replace c11 := Bool.eq_false_iff.mpr c11
    subst c11
    have H1 : (laws_FnEveryTaking.l0 kj3 l0 l1 l2 0 0) = some true := by rw [if_neg (show ¬ (false = true) by decide)] at H; first | done | exact H
    clear H
    have H := H1
    clear H1
    have H' := uD H
    clear H
    go_wp2
    repeat (go_quiet (fail); try go_wp2)
    go_loopg [7, 8] kj3 (fun kq v7 v8 w' => ∃ (x7_2 : Int) (x8_2 : Int), v7 = .int .i64 x7_2 ∧ v8 = .int .i64 x8_2 ∧ Aside0 (laws_FnEveryTaking.l0 kq l0 l1 l2 x7_2 x8_2 = some true) ∧ Aside0 (kq ≤ kj3) ∧ Aside0 (Below w.heap.size w w'))
    case atStart => exact ⟨(0), (0), (by first | rfl | (simp; done) | (simp [*]; done)), (by first | rfl | (simp; done) | (simp [*]; done)), H', ⟨Nat.le_refl _⟩, ⟨pb HB⟩⟩
    case round =>
     clear H'
     try clear c1
     try clear c2
     try clear p2
     try clear c6
     try clear c8
     try clear c11
     try clear p2
     obtain ⟨x7_2, x8_2, rfl, rfl, HA, HK2, HB⟩ := hrel
     cases gk with
     | zero => exact absurd HA.out (by simp [laws_FnEveryTaking.l0])
     | succ k2 =>
      have H := HA.out
      clear HA
      simp only [laws_FnEveryTaking.l0] at H
      by_cases c12 : x8_2 < (l2.length : Int)
      ·rw [if_pos c12] at H
       have c12b0 : decide (x8_2 < (l2.length : Int)) = true := decide_eq_true c12
       clear c12
       by_cases c13 : 0 ≤ x8_2
       ·rw [if_pos c13] at H
        have c13b0 : decide (0 ≤ x8_2) = true := decide_eq_true c13
        clear c13
        by_cases c14 : (rd l2 x8_2) = 0
        ·rw [if_pos c14] at H
         have c14b0 : ((rd l2 x8_2) == 0) = true := beq_iff_eq.mpr c14
         have c14b1 : ((rd l2 x8_2) != 0) = false := bne_eq_false_iff_eq.mpr c14
         clear c14
         have H' := uD H
         clear H
         have p148 : 0 ≤ (x8_2 : Int) := of_decide_eq_true (by first | (with_reducible assumption) | assumption)
         have q148 : x8_2 < (l2.length : Int) := of_decide_eq_true (by first | (with_reducible assumption) | assumption)
         obtain ⟨ad148, e148, hx148_0⟩ := Kd.at_int HR2.out x8_2 p148 q148
         cases e148
         replace hx148_0 := (HB.out.cell (World.block_lt_of_cell? w _ hx148_0)).trans hx148_0
         replace p148 := eq_true p148
         replace q148 := eq_true q148
         go_wp2
         repeat (go_quiet (fail); try go_wp2)
         go_roundg k2
         case measure => have := HJ3.out; have := HK2.out; omega
         case rel => exact ⟨(x7_2), (wrap64 (x8_2 + 1)), (by first | rfl | (simp; done) | (simp [*]; done)), (by first | rfl | (simp; done) | (simp [*]; done)), H', ⟨by have := HJ3.out; have := HK2.out; omega⟩, ⟨pb HB⟩⟩
        ·rw [if_neg c14] at H
         have c14b0 : ((rd l2 x8_2) == 0) = false := beq_eq_false_iff_ne.mpr c14
         have c14b1 : ((rd l2 x8_2) != 0) = true := bne_iff_ne.mpr c14
         have H' := uD H
         clear H
         have p148 : 0 ≤ (x8_2 : Int) := of_decide_eq_true (by first | (with_reducible assumption) | assumption)
         have q148 : x8_2 < (l2.length : Int) := of_decide_eq_true (by first | (with_reducible assumption) | assumption)
         obtain ⟨ad148, e148, hx148_0⟩ := Kd.at_int HR2.out x8_2 p148 q148
         cases e148
         replace hx148_0 := (HB.out.cell (World.block_lt_of_cell? w _ hx148_0)).trans hx148_0
         replace p148 := eq_true p148
         replace q148 := eq_true q148
         go_wp2
         repeat (go_quiet (fail); try go_wp2)
         go_loopg [9, 10] k2 (fun kq v9 v10 w' => ∃ (x9_3 : Bool) (x10_3 : Int), v9 = .bool x9_3 ∧ v10 = .int .i64 x10_3 ∧ Aside0 (laws_FnEveryTaking.l1 kq l0 l1 l2 x7_2 x8_2 x9_3 x10_3 = some true) ∧ Aside0 (kq ≤ k2) ∧ Aside0 (Below w.heap.size w w'))
         case atStart => exact ⟨(false), (0), (by first | rfl | (simp; done) | (simp [*]; done)), (by first | rfl | (simp; done) | (simp [*]; done)), H', ⟨Nat.le_refl _⟩, ⟨pb HB⟩⟩
         case round =>
          clear H'
          try clear c1
          try clear p1
          try clear q1
          try clear hx1
          try clear c2
          try clear p2
          try clear c6
          try clear p6
          try clear c8
          try clear c11
          try clear c12
          try clear c12b0
          try clear c13
          try clear c13b0
          try clear c14
          try clear c14b0
          try clear c14b1
          try clear p14
          try clear q14
          try clear hx14
          try clear hx148_0
          try clear p148
          try clear p2
          try clear q148
          obtain ⟨x9_3, x10_3, rfl, rfl, HA, HK3, HB⟩ := hrel
          cases gk with
          | zero => exact absurd HA.out (by simp [laws_FnEveryTaking.l1])
          | succ k3 =>
           have H := HA.out
           clear HA
           simp only [laws_FnEveryTaking.l1] at H
           by_cases c15 : x10_3 < (l0.length : Int)
           ·rw [if_pos c15] at H
            have c15b0 : decide (x10_3 < (l0.length : Int)) = true := decide_eq_true c15
            clear c15
            by_cases c16 : x9_3 = true
            ·subst c16
             have H1 : (laws_FnEveryTaking.l1 k3 l0 l1 l2 x7_2 x8_2 true (wrap64 (x10_3 + 1))) = some true := by rw [if_pos rfl] at H; first | done | exact H
             clear H
             have H := H1
             clear H1
             have H' := uD H
             clear H
             go_wp2
             repeat (go_quiet (fail); try go_wp2)
             go_roundg k3
             case measure => have := HJ3.out; have := HK2.out; have := HK3.out; omega
             case rel => exact ⟨(true), (wrap64 (x10_3 + 1)), (by first | rfl | (simp; done) | (simp [*]; done)), (by first | rfl | (simp; done) | (simp [*]; done)), H', ⟨by have := HJ3.out; have := HK2.out; have := HK3.out; omega⟩, ⟨pb HB⟩⟩
            ·replace c16 := Bool.eq_false_iff.mpr c16
             subst c16
             have H1 : (if 0 ≤ x10_3 then (if 0 ≤ x8_2 then (if x8_2 < (l2.length : Int) then (if ((rd_T47 l0 x10_3).f0) = (rd l2 x8_2) then (if x8_2 < (l1.length : Int) then (if ((rd_T47 l0 x10_3).f1) ≤ ((rd_T49 l1 x8_2).f0) then (laws_FnEveryTaking.l1 k3 l0 l1 l2 x7_2 x8_2 (decide (((rd_T47 l0 x10_3).f2) ≥ ((rd_T49 l1 x8_2).f0))) (wrap64 (x10_3 + 1))) else (laws_FnEveryTaking.l1 k3 l0 l1 l2 x7_2 x8_2 false (wrap64 (x10_3 + 1)))) else (none)) else (laws_FnEveryTaking.l1 k3 l0 l1 l2 x7_2 x8_2 false (wrap64 (x10_3 + 1)))) else (none)) else (none)) else (none)) = some true := by rw [if_neg (show ¬ (false = true) by decide)] at H; first | done | exact H
             clear H
             have H := H1
             clear H1
             by_cases c17 : 0 ≤ x10_3
             ·rw [if_pos c17] at H
              have c17b0 : decide (0 ≤ x10_3) = true := decide_eq_true c17
              clear c17
              by_cases c18 : 0 ≤ x8_2
              ·rw [if_pos c18] at H
               have c18b0 : decide (0 ≤ x8_2) = true := decide_eq_true c18
               clear c18
               (try simp [c18b0] at c13b0)
               by_cases c19 : x8_2 < (l2.length : Int)
               ·rw [if_pos c19] at H
                have c19b0 : decide (x8_2 < (l2.length : Int)) = true := decide_eq_true c19
                clear c19
                (try simp [c19b0] at c12b0)
                by_cases c20 : ((rd_T47 l0 x10_3).f0) = (rd l2 x8_2)
                ·rw [if_pos c20] at H
                 have c20b0 : (((rd_T47 l0 x10_3).f0) == (rd l2 x8_2)) = true := beq_iff_eq.mpr c20
                 have c20b1 : (((rd_T47 l0 x10_3).f0) != (rd l2 x8_2)) = false := bne_eq_false_iff_eq.mpr c20
                 clear c20
                 by_cases c21 : x8_2 < (l1.length : Int)
                 ·rw [if_pos c21] at H
                  have c21b0 : decide (x8_2 < (l1.length : Int)) = true := decide_eq_true c21
                  clear c21
                  by_cases c22 : ((rd_T47 l0 x10_3).f1) ≤ ((rd_T49 l1 x8_2).f0)
                  ·rw [if_pos c22] at H
                   have c22b0 : decide (((rd_T47 l0 x10_3).f1) ≤ ((rd_T49 l1 x8_2).f0)) = true := decide_eq_true c22
                   clear c22
                   have H' := uD H
                   clear H
                   have p149 : 0 ≤ (x10_3 : Int) := of_decide_eq_true (by first | (with_reducible assumption) | assumption)
                   have q149 : x10_3 < (l0.length : Int) := of_decide_eq_true (by first | (with_reducible assumption) | assumption)
                   obtain ⟨ad149, e149, hx149_0, hx149_1, hx149_2⟩ := at_T47 HR0.out x10_3 p149 q149
                   cases e149
                   replace hx149_0 := (HB.out.cell (World.block_lt_of_cell? w _ hx149_0)).trans hx149_0
                   replace hx149_1 := (HB.out.cell (World.block_lt_of_cell? w _ hx149_1)).trans hx149_1
                   replace hx149_2 := (HB.out.cell (World.block_lt_of_cell? w _ hx149_2)).trans hx149_2
                   replace p149 := eq_true p149
                   replace q149 := eq_true q149
                   have p150 : 0 ≤ (x8_2 : Int) := of_decide_eq_true (by first | (with_reducible assumption) | assumption)
                   have q150 : x8_2 < (l2.length : Int) := of_decide_eq_true (by first | (with_reducible assumption) | assumption)
                   obtain ⟨ad150, e150, hx150_0⟩ := Kd.at_int HR2.out x8_2 p150 q150
                   obtain rfl : ad148 = ad150 := (by injection e150)
                   replace hx150_0 := (HB.out.cell (World.block_lt_of_cell? w _ hx150_0)).trans hx150_0
                   replace p150 := eq_true p150
                   replace q150 := eq_true q150
                   have p151 : 0 ≤ (x10_3 : Int) := of_decide_eq_true (by first | (with_reducible assumption) | assumption)
                   have q151 : x10_3 < (l0.length : Int) := of_decide_eq_true (by first | (with_reducible assumption) | assumption)
                   obtain ⟨ad151, e151, hx151_0, hx151_1, hx151_2⟩ := at_T47 HR0.out x10_3 p151 q151
                   obtain rfl : ad149 = ad151 := (by injection e151)
                   replace hx151_0 := (HB.out.cell (World.block_lt_of_cell? w _ hx151_0)).trans hx151_0
                   replace hx151_1 := (HB.out.cell (World.block_lt_of_cell? w _ hx151_1)).trans hx151_1
                   replace hx151_2 := (HB.out.cell (World.block_lt_of_cell? w _ hx151_2)).trans hx151_2
                   replace p151 := eq_true p151
                   replace q151 := eq_true q151
                   have p152 : 0 ≤ (x8_2 : Int) := of_decide_eq_true (by first | (with_reducible assumption) | assumption)
                   have q152 : x8_2 < (l1.length : Int) := of_decide_eq_true (by first | (with_reducible assumption) | assumption)
                   obtain ⟨ad152, e152, hx152_0, hx152_1⟩ := at_T49 HR1.out x8_2 p152 q152
                   cases e152
                   replace hx152_0 := (HB.out.cell (World.block_lt_of_cell? w _ hx152_0)).trans hx152_0
                   replace hx152_1 := (HB.out.cell (World.block_lt_of_cell? w _ hx152_1)).trans hx152_1
                   replace p152 := eq_true p152
                   replace q152 := eq_true q152
                   have p153 : 0 ≤ (x10_3 : Int) := of_decide_eq_true (by first | (with_reducible assumption) | assumption)
                   have q153 : x10_3 < (l0.length : Int) := of_decide_eq_true (by first | (with_reducible assumption) | assumption)
                   obtain ⟨ad153, e153, hx153_0, hx153_1, hx153_2⟩ := at_T47 HR0.out x10_3 p153 q153
                   obtain rfl : ad149 = ad153 := (by injection e153)
                   replace hx153_0 := (HB.out.cell (World.block_lt_of_cell? w _ hx153_0)).trans hx153_0
                   replace hx153_1 := (HB.out.cell (World.block_lt_of_cell? w _ hx153_1)).trans hx153_1
                   replace hx153_2 := (HB.out.cell (World.block_lt_of_cell? w _ hx153_2)).trans hx153_2
                   replace p153 := eq_true p153
                   replace q153 := eq_true q153
                   have p154 : 0 ≤ (x8_2 : Int) := of_decide_eq_true (by first | (with_reducible assumption) | assumption)
                   have q154 : x8_2 < (l1.length : Int) := of_decide_eq_true (by first | (with_reducible assumption) | assumption)
                   obtain ⟨ad154, e154, hx154_0, hx154_1⟩ := at_T49 HR1.out x8_2 p154 q154
                   obtain rfl : ad152 = ad154 := (by injection e154)
                   replace hx154_0 := (HB.out.cell (World.block_lt_of_cell? w _ hx154_0)).trans hx154_0
                   replace hx154_1 := (HB.out.cell (World.block_lt_of_cell? w _ hx154_1)).trans hx154_1
                   replace p154 := eq_true p154
                   replace q154 := eq_true q154
                   go_wp2
                   repeat (go_quiet (fail); try go_wp2)
                   go_roundg k3
                   case measure => have := HJ3.out; have := HK2.out; have := HK3.out; omega
                   case rel => exact ⟨(decide (((rd_T47 l0 x10_3).f2) ≥ ((rd_T49 l1 x8_2).f0))), (wrap64 (x10_3 + 1)), (by first | rfl | (simp; done) | (simp [*]; done)), (by first | rfl | (simp; done) | (simp [*]; done)), H', ⟨by have := HJ3.out; have := HK2.out; have := HK3.out; omega⟩, ⟨pb HB⟩⟩
                  ·rw [if_neg c22] at H
                   have c22b0 : decide (((rd_T47 l0 x10_3).f1) ≤ ((rd_T49 l1 x8_2).f0)) = false := decide_eq_false c22
                   clear c22
                   have H' := uD H
                   clear H
                   have p149 : 0 ≤ (x10_3 : Int) := of_decide_eq_true (by first | (with_reducible assumption) | assumption)
                   have q149 : x10_3 < (l0.length : Int) := of_decide_eq_true (by first | (with_reducible assumption) | assumption)
                   obtain ⟨ad149, e149, hx149_0, hx149_1, hx149_2⟩ := at_T47 HR0.out x10_3 p149 q149
                   cases e149
                   replace hx149_0 := (HB.out.cell (World.block_lt_of_cell? w _ hx149_0)).trans hx149_0
                   replace hx149_1 := (HB.out.cell (World.block_lt_of_cell? w _ hx149_1)).trans hx149_1
                   replace hx149_2 := (HB.out.cell (World.block_lt_of_cell? w _ hx149_2)).trans hx149_2
                   replace p149 := eq_true p149
                   replace q149 := eq_true q149
                   have p150 : 0 ≤ (x8_2 : Int) := of_decide_eq_true (by first | (with_reducible assumption) | assumption)
                   have q150 : x8_2 < (l2.length : Int) := of_decide_eq_true (by first | (with_reducible assumption) | assumption)
                   obtain ⟨ad150, e150, hx150_0⟩ := Kd.at_int HR2.out x8_2 p150 q150
                   obtain rfl : ad148 = ad150 := (by injection e150)
                   replace hx150_0 := (HB.out.cell (World.block_lt_of_cell? w _ hx150_0)).trans hx150_0
                   replace p150 := eq_true p150
                   replace q150 := eq_true q150
                   have p151 : 0 ≤ (x10_3 : Int) := of_decide_eq_true (by first | (with_reducible assumption) | assumption)
                   have q151 : x10_3 < (l0.length : Int) := of_decide_eq_true (by first | (with_reducible assumption) | assumption)
                   obtain ⟨ad151, e151, hx151_0, hx151_1, hx151_2⟩ := at_T47 HR0.out x10_3 p151 q151
                   obtain rfl : ad149 = ad151 := (by injection e151)
                   replace hx151_0 := (HB.out.cell (World.block_lt_of_cell? w _ hx151_0)).trans hx151_0
                   replace hx151_1 := (HB.out.cell (World.block_lt_of_cell? w _ hx151_1)).trans hx151_1
                   replace hx151_2 := (HB.out.cell (World.block_lt_of_cell? w _ hx151_2)).trans hx151_2
                   replace p151 := eq_true p151
                   replace q151 := eq_true q151
                   have p152 : 0 ≤ (x8_2 : Int) := of_decide_eq_true (by first | (with_reducible assumption) | assumption)
                   have q152 : x8_2 < (l1.length : Int) := of_decide_eq_true (by first | (with_reducible assumption) | assumption)
                   obtain ⟨ad152, e152, hx152_0, hx152_1⟩ := at_T49 HR1.out x8_2 p152 q152
                   cases e152
                   replace hx152_0 := (HB.out.cell (World.block_lt_of_cell? w _ hx152_0)).trans hx152_0
                   replace hx152_1 := (HB.out.cell (World.block_lt_of_cell? w _ hx152_1)).trans hx152_1
                   replace p152 := eq_true p152
                   replace q152 := eq_true q152
                   go_wp2
                   repeat (go_quiet (fail); try go_wp2)
                   go_roundg k3
                   case measure => have := HJ3.out; have := HK2.out; have := HK3.out; omega
                   case rel => exact ⟨(false), (wrap64 (x10_3 + 1)), (by first | rfl | (simp; done) | (simp [*]; done)), (by first | rfl | (simp; done) | (simp [*]; done)), H', ⟨by have := HJ3.out; have := HK2.out; have := HK3.out; omega⟩, ⟨pb HB⟩⟩
                 ·rw [if_neg c21] at H
                  exact absurd H (by simp)
                ·rw [if_neg c20] at H
                 have c20b0 : (((rd_T47 l0 x10_3).f0) == (rd l2 x8_2)) = false := beq_eq_false_iff_ne.mpr c20
                 have c20b1 : (((rd_T47 l0 x10_3).f0) != (rd l2 x8_2)) = true := bne_iff_ne.mpr c20
                 have H' := uD H
                 clear H
                 have p149 : 0 ≤ (x10_3 : Int) := of_decide_eq_true (by first | (with_reducible assumption) | assumption)
                 have q149 : x10_3 < (l0.length : Int) := of_decide_eq_true (by first | (with_reducible assumption) | assumption)
                 obtain ⟨ad149, e149, hx149_0, hx149_1, hx149_2⟩ := at_T47 HR0.out x10_3 p149 q149
                 cases e149
                 replace hx149_0 := (HB.out.cell (World.block_lt_of_cell? w _ hx149_0)).trans hx149_0
                 replace hx149_1 := (HB.out.cell (World.block_lt_of_cell? w _ hx149_1)).trans hx149_1
                 replace hx149_2 := (HB.out.cell (World.block_lt_of_cell? w _ hx149_2)).trans hx149_2
                 replace p149 := eq_true p149
                 replace q149 := eq_true q149
                 have p150 : 0 ≤ (x8_2 : Int) := of_decide_eq_true (by first | (with_reducible assumption) | assumption)
                 have q150 : x8_2 < (l2.length : Int) := of_decide_eq_true (by first | (with_reducible assumption) | assumption)
                 obtain ⟨ad150, e150, hx150_0⟩ := Kd.at_int HR2.out x8_2 p150 q150
                 obtain rfl : ad148 = ad150 := (by injection e150)
                 replace hx150_0 := (HB.out.cell (World.block_lt_of_cell? w _ hx150_0)).trans hx150_0
                 replace p150 := eq_true p150
                 replace q150 := eq_true q150
                 go_wp2
                 repeat (go_quiet (fail); try go_wp2)
                 go_roundg k3
                 case measure => have := HJ3.out; have := HK2.out; have := HK3.out; omega
                 case rel => exact ⟨(false), (wrap64 (x10_3 + 1)), (by first | rfl | (simp; done) | (simp [*]; done)), (by first | rfl | (simp; done) | (simp [*]; done)), H', ⟨by have := HJ3.out; have := HK2.out; have := HK3.out; omega⟩, ⟨pb HB⟩⟩
               ·rw [if_neg c19] at H
                exact absurd H (by simp)
              ·rw [if_neg c18] at H
               exact absurd H (by simp)
             ·rw [if_neg c17] at H
              exact absurd H (by simp)
           ·rw [if_neg c15] at H
            have c15b0 : decide (x10_3 < (l0.length : Int)) = false := decide_eq_false c15
            clear c15
            have H' := uD H
            clear H
            go_wp2
            repeat (go_quiet (fail); try go_wp2)
            go_loopg [9, 11] k3 (fun kq v9 v11 w' => ∃ (x9_4 : Bool) (x11_4 : Int), v9 = .bool x9_4 ∧ v11 = .int .i64 x11_4 ∧ Aside0 (laws_FnEveryTaking.l2 kq l0 l1 l2 x7_2 x8_2 x9_4 x11_4 = some true) ∧ Aside0 (kq ≤ k3) ∧ Aside0 (Below w.heap.size w w'))
            case atStart => exact ⟨(x9_3), (0), (by first | rfl | (simp; done) | (simp [*]; done)), (by first | rfl | (simp; done) | (simp [*]; done)), H', ⟨Nat.le_refl _⟩, ⟨pb HB⟩⟩
            case round =>
             clear H'
             try clear c1
             try clear p1
             try clear q1
             try clear hx1
             try clear c2
             try clear p2
             try clear c6
             try clear p6
             try clear c8
             try clear c11
             try clear c12
             try clear c12b0
             try clear c13
             try clear c13b0
             try clear c14
             try clear c14b0
             try clear c14b1
             try clear p14
             try clear q14
             try clear hx14
             try clear c15
             try clear c15b0
             try clear p15
             try clear q15
             try clear hx15
             try clear c16
             try clear c17
             try clear c17b0
             try clear c18
             try clear c18b0
             try clear c19
             try clear c19b0
             try clear c20
             try clear c20b0
             try clear c20b1
             try clear c21
             try clear c21b0
             try clear c22
             try clear c22b0
             try clear hx148_0
             try clear hx149_0
             try clear hx149_1
             try clear hx149_2
             try clear hx150_0
             try clear hx151_0
             try clear hx151_1
             try clear hx151_2
             try clear hx152_0
             try clear hx152_1
             try clear hx153_0
             try clear hx153_1
             try clear hx153_2
             try clear hx154_0
             try clear hx154_1
             try clear p1
             try clear p14
             try clear p148
             try clear p149
             try clear p150
             try clear p151
             try clear p152
             try clear p153
             try clear p154
             try clear p2
             try clear p6
             try clear q1
             try clear q14
             try clear q148
             try clear q149
             try clear q150
             try clear q151
             try clear q152
             try clear q153
             try clear q154
             obtain ⟨x9_4, x11_4, rfl, rfl, HA, HK4, HB⟩ := hrel
             cases gk with
             | zero => exact absurd HA.out (by simp [laws_FnEveryTaking.l2])
             | succ k4 =>
              have H := HA.out
              clear HA
              simp only [laws_FnEveryTaking.l2] at H
              by_cases c23 : x11_4 < (l1.length : Int)
              ·rw [if_pos c23] at H
               have c23b0 : decide (x11_4 < (l1.length : Int)) = true := decide_eq_true c23
               clear c23
               by_cases c24 : x9_4 = true
               ·subst c24
                have H1 : (if 0 ≤ x11_4 then (if 0 ≤ x8_2 then (if x8_2 < (l2.length : Int) then (if ((rd_T49 l1 x11_4).f1) = (rd l2 x8_2) then (laws_FnEveryTaking.l2 k4 l0 l1 l2 x7_2 x8_2 false (wrap64 (x11_4 + 1))) else (if x11_4 = x8_2 then (laws_FnEveryTaking.l2 k4 l0 l1 l2 x7_2 x8_2 true (wrap64 (x11_4 + 1))) else (if x11_4 < (l2.length : Int) then (laws_FnEveryTaking.l2 k4 l0 l1 l2 x7_2 x8_2 ((rd l2 x11_4) != (rd l2 x8_2)) (wrap64 (x11_4 + 1))) else (none)))) else (none)) else (none)) else (none)) = some true := by rw [if_pos rfl] at H; first | done | exact H
                clear H
                have H := H1
                clear H1
                by_cases c25 : 0 ≤ x11_4
                ·rw [if_pos c25] at H
                 have c25b0 : decide (0 ≤ x11_4) = true := decide_eq_true c25
                 clear c25
                 by_cases c26 : 0 ≤ x8_2
                 ·rw [if_pos c26] at H
                  have c26b0 : decide (0 ≤ x8_2) = true := decide_eq_true c26
                  clear c26
                  (try simp [c26b0] at c13b0)
                  by_cases c27 : x8_2 < (l2.length : Int)
                  ·rw [if_pos c27] at H
                   have c27b0 : decide (x8_2 < (l2.length : Int)) = true := decide_eq_true c27
                   clear c27
                   (try simp [c27b0] at c12b0)
                   by_cases c28 : ((rd_T49 l1 x11_4).f1) = (rd l2 x8_2)
                   ·rw [if_pos c28] at H
                    have c28b0 : (((rd_T49 l1 x11_4).f1) == (rd l2 x8_2)) = true := beq_iff_eq.mpr c28
                    have c28b1 : (((rd_T49 l1 x11_4).f1) != (rd l2 x8_2)) = false := bne_eq_false_iff_eq.mpr c28
                    clear c28
                    have H' := uD H
                    clear H
                    have p155 : 0 ≤ (x11_4 : Int) := of_decide_eq_true (by first | (with_reducible assumption) | assumption)
                    have q155 : x11_4 < (l1.length : Int) := of_decide_eq_true (by first | (with_reducible assumption) | assumption)
                    obtain ⟨ad155, e155, hx155_0, hx155_1⟩ := at_T49 HR1.out x11_4 p155 q155
                    cases e155
                    replace hx155_0 := (HB.out.cell (World.block_lt_of_cell? w _ hx155_0)).trans hx155_0
                    replace hx155_1 := (HB.out.cell (World.block_lt_of_cell? w _ hx155_1)).trans hx155_1
                    replace p155 := eq_true p155
                    replace q155 := eq_true q155
                    have p156 : 0 ≤ (x8_2 : Int) := of_decide_eq_true (by first | (with_reducible assumption) | assumption)
                    have q156 : x8_2 < (l2.length : Int) := of_decide_eq_true (by first | (with_reducible assumption) | assumption)
                    obtain ⟨ad156, e156, hx156_0⟩ := Kd.at_int HR2.out x8_2 p156 q156
                    obtain rfl : ad148 = ad156 := (by injection e156)
                    replace hx156_0 := (HB.out.cell (World.block_lt_of_cell? w _ hx156_0)).trans hx156_0
                    replace p156 := eq_true p156
                    replace q156 := eq_true q156
                    go_wp2
                    repeat (go_quiet (fail); try go_wp2)
                    go_roundg k4
                    case measure => have := HJ3.out; have := HK2.out; have := HK3.out; have := HK4.out; omega
                    case rel => exact ⟨(false), (wrap64 (x11_4 + 1)), (by first | rfl | (simp; done) | (simp [*]; done)), (by first | rfl | (simp; done) | (simp [*]; done)), H', ⟨by have := HJ3.out; have := HK2.out; have := HK3.out; have := HK4.out; omega⟩, ⟨pb HB⟩⟩
                   ·rw [if_neg c28] at H
                    have c28b0 : (((rd_T49 l1 x11_4).f1) == (rd l2 x8_2)) = false := beq_eq_false_iff_ne.mpr c28
                    have c28b1 : (((rd_T49 l1 x11_4).f1) != (rd l2 x8_2)) = true := bne_iff_ne.mpr c28
                    by_cases c29 : x11_4 = x8_2
                    ·rw [if_pos c29] at H
                     have c29b0 : (x11_4 == x8_2) = true := beq_iff_eq.mpr c29
                     have c29b1 : (x11_4 != x8_2) = false := bne_eq_false_iff_eq.mpr c29
                     clear c29
                     have H' := uD H
                     clear H
                     have p155 : 0 ≤ (x11_4 : Int) := of_decide_eq_true (by first | (with_reducible assumption) | assumption)
                     have q155 : x11_4 < (l1.length : Int) := of_decide_eq_true (by first | (with_reducible assumption) | assumption)
                     obtain ⟨ad155, e155, hx155_0, hx155_1⟩ := at_T49 HR1.out x11_4 p155 q155
                     cases e155
                     replace hx155_0 := (HB.out.cell (World.block_lt_of_cell? w _ hx155_0)).trans hx155_0
                     replace hx155_1 := (HB.out.cell (World.block_lt_of_cell? w _ hx155_1)).trans hx155_1
                     replace p155 := eq_true p155
                     replace q155 := eq_true q155
                     have p156 : 0 ≤ (x8_2 : Int) := of_decide_eq_true (by first | (with_reducible assumption) | assumption)
                     have q156 : x8_2 < (l2.length : Int) := of_decide_eq_true (by first | (with_reducible assumption) | assumption)
                     obtain ⟨ad156, e156, hx156_0⟩ := Kd.at_int HR2.out x8_2 p156 q156
                     obtain rfl : ad148 = ad156 := (by injection e156)
                     replace hx156_0 := (HB.out.cell (World.block_lt_of_cell? w _ hx156_0)).trans hx156_0
                     replace p156 := eq_true p156
                     replace q156 := eq_true q156
                     go_wp2
                     repeat (go_quiet (fail); try go_wp2)
                     go_roundg k4
                     case measure => have := HJ3.out; have := HK2.out; have := HK3.out; have := HK4.out; omega
                     case rel => exact ⟨(true), (wrap64 (x11_4 + 1)), (by first | rfl | (simp; done) | (simp [*]; done)), (by first | rfl | (simp; done) | (simp [*]; done)), H', ⟨by have := HJ3.out; have := HK2.out; have := HK3.out; have := HK4.out; omega⟩, ⟨pb HB⟩⟩
                    ·rw [if_neg c29] at H
                     have c29b0 : (x11_4 == x8_2) = false := beq_eq_false_iff_ne.mpr c29
                     have c29b1 : (x11_4 != x8_2) = true := bne_iff_ne.mpr c29
                     by_cases c30 : x11_4 < (l2.length : Int)
                     ·rw [if_pos c30] at H
                      have c30b0 : decide (x11_4 < (l2.length : Int)) = true := decide_eq_true c30
                      clear c30
                      have H' := uD H
                      clear H
                      have p155 : 0 ≤ (x11_4 : Int) := of_decide_eq_true (by first | (with_reducible assumption) | assumption)
                      have q155 : x11_4 < (l1.length : Int) := of_decide_eq_true (by first | (with_reducible assumption) | assumption)
                      obtain ⟨ad155, e155, hx155_0, hx155_1⟩ := at_T49 HR1.out x11_4 p155 q155
                      cases e155
                      replace hx155_0 := (HB.out.cell (World.block_lt_of_cell? w _ hx155_0)).trans hx155_0
                      replace hx155_1 := (HB.out.cell (World.block_lt_of_cell? w _ hx155_1)).trans hx155_1
                      replace p155 := eq_true p155
                      replace q155 := eq_true q155
                      have p156 : 0 ≤ (x8_2 : Int) := of_decide_eq_true (by first | (with_reducible assumption) | assumption)
                      have q156 : x8_2 < (l2.length : Int) := of_decide_eq_true (by first | (with_reducible assumption) | assumption)
                      obtain ⟨ad156, e156, hx156_0⟩ := Kd.at_int HR2.out x8_2 p156 q156
                      obtain rfl : ad148 = ad156 := (by injection e156)
                      replace hx156_0 := (HB.out.cell (World.block_lt_of_cell? w _ hx156_0)).trans hx156_0
                      replace p156 := eq_true p156
                      replace q156 := eq_true q156
                      have p157 : 0 ≤ (x11_4 : Int) := of_decide_eq_true (by first | (with_reducible assumption) | assumption)
                      have q157 : x11_4 < (l2.length : Int) := of_decide_eq_true (by first | (with_reducible assumption) | assumption)
                      obtain ⟨ad157, e157, hx157_0⟩ := Kd.at_int HR2.out x11_4 p157 q157
                      obtain rfl : ad148 = ad157 := (by injection e157)
                      replace hx157_0 := (HB.out.cell (World.block_lt_of_cell? w _ hx157_0)).trans hx157_0
                      replace p157 := eq_true p157
                      replace q157 := eq_true q157
                      have p158 : 0 ≤ (x8_2 : Int) := of_decide_eq_true (by first | (with_reducible assumption) | assumption)
                      have q158 : x8_2 < (l2.length : Int) := of_decide_eq_true (by first | (with_reducible assumption) | assumption)
                      obtain ⟨ad158, e158, hx158_0⟩ := Kd.at_int HR2.out x8_2 p158 q158
                      obtain rfl : ad148 = ad158 := (by injection e158)
                      replace hx158_0 := (HB.out.cell (World.block_lt_of_cell? w _ hx158_0)).trans hx158_0
                      replace p158 := eq_true p158
                      replace q158 := eq_true q158
                      go_wp2
                      repeat (go_quiet (fail); try go_wp2)
                      go_roundg k4
                      case measure => have := HJ3.out; have := HK2.out; have := HK3.out; have := HK4.out; omega
                      case rel => exact ⟨(((rd l2 x11_4) != (rd l2 x8_2))), (wrap64 (x11_4 + 1)), (by first | rfl | (simp; done) | (simp [*]; done)), (by first | rfl | (simp; done) | (simp [*]; done)), H', ⟨by have := HJ3.out; have := HK2.out; have := HK3.out; have := HK4.out; omega⟩, ⟨pb HB⟩⟩
                     ·rw [if_neg c30] at H
                      exact absurd H (by simp)
                  ·rw [if_neg c27] at H
                   exact absurd H (by simp)
                 ·rw [if_neg c26] at H
                  exact absurd H (by simp)
                ·rw [if_neg c25] at H
                 exact absurd H (by simp)
               ·replace c24 := Bool.eq_false_iff.mpr c24
                subst c24
                have H1 : (laws_FnEveryTaking.l2 k4 l0 l1 l2 x7_2 x8_2 false (wrap64 (x11_4 + 1))) = some true := by rw [if_neg (show ¬ (false = true) by decide)] at H; first | done | exact H
                clear H
                have H := H1
                clear H1
                have H' := uD H
                clear H
                go_wp2
                repeat (go_quiet (fail); try go_wp2)
                go_roundg k4
                case measure => have := HJ3.out; have := HK2.out; have := HK3.out; have := HK4.out; omega
                case rel => exact ⟨(false), (wrap64 (x11_4 + 1)), (by first | rfl | (simp; done) | (simp [*]; done)), (by first | rfl | (simp; done) | (simp [*]; done)), H', ⟨by have := HJ3.out; have := HK2.out; have := HK3.out; have := HK4.out; omega⟩, ⟨pb HB⟩⟩
              ·rw [if_neg c23] at H
               have c23b0 : decide (x11_4 < (l1.length : Int)) = false := decide_eq_false c23
               clear c23
               by_cases c31 : x9_4 = true
               ·subst c31
                have H1 : (if 0 ≤ x8_2 then (if x8_2 < (l1.length : Int) then (if ((rd_T49 l1 x8_2).f1) = 0 then (laws_FnEveryTaking.l0 k4 l0 l1 l2 (wrap64 (x7_2 + 1)) (wrap64 (x8_2 + 1))) else (some true)) else (none)) else (none)) = some true := by rw [if_pos rfl] at H; first | done | exact H
                clear H
                have H := H1
                clear H1
                by_cases c32 : 0 ≤ x8_2
                ·rw [if_pos c32] at H
                 have c32b0 : decide (0 ≤ x8_2) = true := decide_eq_true c32
                 clear c32
                 (try simp [c32b0] at c13b0)
                 by_cases c33 : x8_2 < (l1.length : Int)
                 ·rw [if_pos c33] at H
                  have c33b0 : decide (x8_2 < (l1.length : Int)) = true := decide_eq_true c33
                  clear c33
                  by_cases c34 : ((rd_T49 l1 x8_2).f1) = 0
                  ·rw [if_pos c34] at H
                   have c34b0 : (((rd_T49 l1 x8_2).f1) == 0) = true := beq_iff_eq.mpr c34
                   have c34b1 : (((rd_T49 l1 x8_2).f1) != 0) = false := bne_eq_false_iff_eq.mpr c34
                   clear c34
                   have H' := uD H
                   clear H
                   have p159 : 0 ≤ (x8_2 : Int) := of_decide_eq_true (by first | (with_reducible assumption) | assumption)
                   have q159 : x8_2 < (l1.length : Int) := of_decide_eq_true (by first | (with_reducible assumption) | assumption)
                   obtain ⟨ad159, e159, hx159_0, hx159_1⟩ := at_T49 HR1.out x8_2 p159 q159
                   cases e159
                   replace hx159_0 := (HB.out.cell (World.block_lt_of_cell? w _ hx159_0)).trans hx159_0
                   replace hx159_1 := (HB.out.cell (World.block_lt_of_cell? w _ hx159_1)).trans hx159_1
                   replace p159 := eq_true p159
                   replace q159 := eq_true q159
                   go_wp2
                   repeat (go_quiet (fail); try go_wp2)
                   go_roundg k4
                   case measure => have := HJ3.out; have := HK2.out; have := HK3.out; have := HK4.out; omega
                   case rel => exact ⟨(wrap64 (x7_2 + 1)), (wrap64 (x8_2 + 1)), (by first | rfl | (simp; done) | (simp [*]; done)), (by first | rfl | (simp; done) | (simp [*]; done)), H', ⟨by have := HJ3.out; have := HK2.out; have := HK3.out; have := HK4.out; omega⟩, ⟨pb HB⟩⟩
                  ·rw [if_neg c34] at H
                   have c34b0 : (((rd_T49 l1 x8_2).f1) == 0) = false := beq_eq_false_iff_ne.mpr c34
                   have c34b1 : (((rd_T49 l1 x8_2).f1) != 0) = true := bne_iff_ne.mpr c34
                   have HT := Option.some.inj H
                   clear H
                   have p159 : 0 ≤ (x8_2 : Int) := of_decide_eq_true (by first | (with_reducible assumption) | assumption)
                   have q159 : x8_2 < (l1.length : Int) := of_decide_eq_true (by first | (with_reducible assumption) | assumption)
                   obtain ⟨ad159, e159, hx159_0, hx159_1⟩ := at_T49 HR1.out x8_2 p159 q159
                   cases e159
                   replace hx159_0 := (HB.out.cell (World.block_lt_of_cell? w _ hx159_0)).trans hx159_0
                   replace hx159_1 := (HB.out.cell (World.block_lt_of_cell? w _ hx159_1)).trans hx159_1
                   replace p159 := eq_true p159
                   replace q159 := eq_true q159
                   go_wp2
                   repeat (go_quiet (fail); try go_wp2)
                   go_ret
                   exact ⟨by first | rfl | (simp [errW_none, errW_some] <;> rfl) | (simp [*, errW_none, errW_some] <;> rfl), pb HB⟩
                 ·rw [if_neg c33] at H
                  exact absurd H (by simp)
                ·rw [if_neg c32] at H
                 exact absurd H (by simp)
               ·replace c31 := Bool.eq_false_iff.mpr c31
                subst c31
                have H1 : (some true) = some true := by rw [if_neg (show ¬ (false = true) by decide)] at H; first | done | exact H
                clear H
                have H := H1
                clear H1
                have HT := Option.some.inj H
                clear H
                go_wp2
                repeat (go_quiet (fail); try go_wp2)
                go_ret
                exact ⟨by first | rfl | (simp [errW_none, errW_some] <;> rfl) | (simp [*, errW_none, errW_some] <;> rfl), pb HB⟩
       ·rw [if_neg c13] at H
        exact absurd H (by simp)
      ·rw [if_neg c12] at H
       have c12b0 : decide (x8_2 < (l2.length : Int)) = false := decide_eq_false c12
       clear c12
       replace H := Option.bind_eq_some_iff.mp H
       obtain ⟨t160, A350, H⟩ := H
       replace H : (if (t160.length : Int) = (l1.length : Int) then (laws_FnEveryTaking.l3 k2 l0 l1 x7_2 t160 0 0) else (some false)) = some true := H
       have A35 := uD A350
       clear A350
       by_cases c36 : (t160.length : Int) = (l1.length : Int)
       ·rw [if_pos c36] at H
        have c36b0 : ((t160.length : Int) == (l1.length : Int)) = true := beq_iff_eq.mpr c36
        have c36b1 : ((t160.length : Int) != (l1.length : Int)) = false := bne_eq_false_iff_eq.mpr c36
        have c36b2 : (t160.length == l1.length) = true := by first | simpa using c36 | (simp at c36 ⊢; omega)
        clear c36
        have H' := uD H
        clear H
        go_wp2_with (first | (go_at_call 24; (with_reducible refine (impl_Assign.calls k2 _ _ l0 _ _ l1 t160 _ ?side1 ?side2 ?side3 ?side4 A35.out).mono ?_); (case side1 => repeat (first | exact (Kd.C_below HR0.out HB.out) | (with_reducible refine Kd.C_alloc ?_ _) | (with_reducible refine Kd.C_drewN ?_ _) | (with_reducible refine Kd.C_drew ?_))); (case side2 => exact HC0.out); (case side3 => repeat (first | exact (Kd.C_below HR1.out HB.out) | (with_reducible refine Kd.C_alloc ?_ _) | (with_reducible refine Kd.C_drewN ?_ _) | (with_reducible refine Kd.C_drew ?_))); (case side4 => exact HC1.out); rintro e w37 ⟨v161, rfl, ho0, hb⟩; have HO162 := uD (Kd.R_lower ho0 (uN (pb HB))); replace HB := uD (uO (pb HB) hb); (try clear hb); (try clear hb2); (try clear hk); (try clear hi); (try clear ho0); obtain ⟨Ao38, co38, eo38⟩ := Kd.R_slice HO162.out; subst eo38))
        repeat (go_quiet (first | (go_at_call 24; (with_reducible refine (impl_Assign.calls k2 _ _ l0 _ _ l1 t160 _ ?side1 ?side2 ?side3 ?side4 A35.out).mono ?_); (case side1 => repeat (first | exact (Kd.C_below HR0.out HB.out) | (with_reducible refine Kd.C_alloc ?_ _) | (with_reducible refine Kd.C_drewN ?_ _) | (with_reducible refine Kd.C_drew ?_))); (case side2 => exact HC0.out); (case side3 => repeat (first | exact (Kd.C_below HR1.out HB.out) | (with_reducible refine Kd.C_alloc ?_ _) | (with_reducible refine Kd.C_drewN ?_ _) | (with_reducible refine Kd.C_drew ?_))); (case side4 => exact HC1.out); rintro e w37 ⟨v161, rfl, ho0, hb⟩; have HO162 := uD (Kd.R_lower ho0 (uN (pb HB))); replace HB := uD (uO (pb HB) hb); (try clear hb); (try clear hb2); (try clear hk); (try clear hi); (try clear ho0); obtain ⟨Ao38, co38, eo38⟩ := Kd.R_slice HO162.out; subst eo38)); try go_wp2_with (first | (go_at_call 24; (with_reducible refine (impl_Assign.calls k2 _ _ l0 _ _ l1 t160 _ ?side1 ?side2 ?side3 ?side4 A35.out).mono ?_); (case side1 => repeat (first | exact (Kd.C_below HR0.out HB.out) | (with_reducible refine Kd.C_alloc ?_ _) | (with_reducible refine Kd.C_drewN ?_ _) | (with_reducible refine Kd.C_drew ?_))); (case side2 => exact HC0.out); (case side3 => repeat (first | exact (Kd.C_below HR1.out HB.out) | (with_reducible refine Kd.C_alloc ?_ _) | (with_reducible refine Kd.C_drewN ?_ _) | (with_reducible refine Kd.C_drew ?_))); (case side4 => exact HC1.out); rintro e w37 ⟨v161, rfl, ho0, hb⟩; have HO162 := uD (Kd.R_lower ho0 (uN (pb HB))); replace HB := uD (uO (pb HB) hb); (try clear hb); (try clear hb2); (try clear hk); (try clear hi); (try clear ho0); obtain ⟨Ao38, co38, eo38⟩ := Kd.R_slice HO162.out; subst eo38)))
        go_loopg [13, 14] k2 (fun kq v13 v14 w' => ∃ (x13_3 : Int) (x14_3 : Int), v13 = .int .i64 x13_3 ∧ v14 = .int .i64 x14_3 ∧ Aside0 (laws_FnEveryTaking.l3 kq l0 l1 x7_2 t160 x13_3 x14_3 = some true) ∧ Aside0 (kq ≤ k2) ∧ Aside0 (Kd.R (Kd.int .i64) 3 w' w.heap.size (fun _ => True) (.slice Ao38 t160.length co38) t160) ∧ Aside0 (Below w.heap.size w w'))
        case atStart => exact ⟨(0), (0), (by first | rfl | (simp; done) | (simp [*]; done)), (by first | rfl | (simp; done) | (simp [*]; done)), H', ⟨Nat.le_refl _⟩, ⟨by (with_reducible repeat (first | apply uU | apply uS | apply uT)); exact HO162.out⟩, ⟨pb HB⟩⟩
        case round =>
         clear H'
         try clear c1
         try clear p1
         try clear q1
         try clear hx1
         try clear c2
         try clear p2
         try clear c3
         try clear c6
         try clear p6
         try clear c8
         try clear c11
         try clear c12
         try clear c12b0
         try clear c13
         try clear c13b0
         try clear c14
         try clear c14b0
         try clear c14b1
         try clear p14
         try clear q14
         try clear hx14
         try clear c15
         try clear c15b0
         try clear p15
         try clear q15
         try clear hx15
         try clear c16
         try clear c17
         try clear c17b0
         try clear c18
         try clear c18b0
         try clear c19
         try clear c19b0
         try clear c20
         try clear c20b0
         try clear c20b1
         try clear c21
         try clear c21b0
         try clear c22
         try clear c22b0
         try clear c23
         try clear c23b0
         try clear c24
         try clear c25
         try clear c25b0
         try clear c26
         try clear c26b0
         try clear c27
         try clear c27b0
         try clear c28
         try clear c28b0
         try clear c28b1
         try clear c29
         try clear c29b0
         try clear c29b1
         try clear c30
         try clear c30b0
         try clear c31
         try clear c32
         try clear c32b0
         try clear c33
         try clear c33b0
         try clear c34
         try clear c34b0
         try clear c34b1
         try clear c36
         try clear c36b0
         try clear c36b1
         try clear c36b2
         try clear hx148_0
         try clear hx149_0
         try clear hx149_1
         try clear hx149_2
         try clear hx150_0
         try clear hx151_0
         try clear hx151_1
         try clear hx151_2
         try clear hx152_0
         try clear hx152_1
         try clear hx153_0
         try clear hx153_1
         try clear hx153_2
         try clear hx154_0
         try clear hx154_1
         try clear hx155_0
         try clear hx155_1
         try clear hx156_0
         try clear hx157_0
         try clear hx158_0
         try clear hx159_0
         try clear hx159_1
         try clear p1
         try clear p14
         try clear p148
         try clear p149
         try clear p15
         try clear p150
         try clear p151
         try clear p152
         try clear p153
         try clear p154
         try clear p155
         try clear p156
         try clear p157
         try clear p158
         try clear p159
         try clear p2
         try clear p6
         try clear q1
         try clear q14
         try clear q148
         try clear q149
         try clear q15
         try clear q150
         try clear q151
         try clear q152
         try clear q153
         try clear q154
         try clear q155
         try clear q156
         try clear q157
         try clear q158
         try clear q159
         obtain ⟨x13_3, x14_3, rfl, rfl, HA, HK3, HO_12, HB⟩ := hrel
         cases gk with
         | zero => exact absurd HA.out (by simp [laws_FnEveryTaking.l3])
         | succ k3 =>
          have H := HA.out
          clear HA
          simp only [laws_FnEveryTaking.l3] at H
          by_cases c39 : x14_3 < (t160.length : Int)
          ·rw [if_pos c39] at H
           have c39b0 : decide (x14_3 < (t160.length : Int)) = true := decide_eq_true c39
           clear c39
           by_cases c40 : 0 ≤ x14_3
           ·rw [if_pos c40] at H
            have c40b0 : decide (0 ≤ x14_3) = true := decide_eq_true c40
            clear c40
            by_cases c41 : x14_3 < (l1.length : Int)
            ·rw [if_pos c41] at H
             have c41b0 : decide (x14_3 < (l1.length : Int)) = true := decide_eq_true c41
             clear c41
             by_cases c42 : ((rd_T49 l1 x14_3).f1) = 0
             ·rw [if_pos c42] at H
              have c42b0 : (((rd_T49 l1 x14_3).f1) == 0) = true := beq_iff_eq.mpr c42
              have c42b1 : (((rd_T49 l1 x14_3).f1) != 0) = false := bne_eq_false_iff_eq.mpr c42
              clear c42
              by_cases c43 : (rd t160 x14_3) = 0
              ·rw [if_pos c43] at H
               have c43b0 : ((rd t160 x14_3) == 0) = true := beq_iff_eq.mpr c43
               have c43b1 : ((rd t160 x14_3) != 0) = false := bne_eq_false_iff_eq.mpr c43
               clear c43
               have H' := uD H
               clear H
               have p163 : 0 ≤ (x14_3 : Int) := of_decide_eq_true (by first | (with_reducible assumption) | assumption)
               have q163 : x14_3 < (l1.length : Int) := of_decide_eq_true (by first | (with_reducible assumption) | assumption)
               obtain ⟨ad163, e163, hx163_0, hx163_1⟩ := at_T49 HR1.out x14_3 p163 q163
               cases e163
               replace hx163_0 := (HB.out.cell (World.block_lt_of_cell? w _ hx163_0)).trans hx163_0
               replace hx163_1 := (HB.out.cell (World.block_lt_of_cell? w _ hx163_1)).trans hx163_1
               replace p163 := eq_true p163
               replace q163 := eq_true q163
               have p164 : 0 ≤ (x14_3 : Int) := of_decide_eq_true (by first | (with_reducible assumption) | assumption)
               have q164 : x14_3 < (t160.length : Int) := of_decide_eq_true (by first | (with_reducible assumption) | assumption)
               obtain ⟨ad164, e164, hx164_0⟩ := Kd.at_int (Kd.R_reads' HO_12.out).2.2 x14_3 p164 q164
               cases e164
               replace p164 := eq_true p164
               replace q164 := eq_true q164
               go_wp2
               repeat (go_quiet (fail); try go_wp2)
               go_roundg k3
               case measure => have := HJ3.out; have := HK2.out; have := HK3.out; omega
               case rel => exact ⟨(x13_3), (wrap64 (x14_3 + 1)), (by first | rfl | (simp; done) | (simp [*]; done)), (by first | rfl | (simp; done) | (simp [*]; done)), H', ⟨by have := HJ3.out; have := HK2.out; have := HK3.out; omega⟩, ⟨by (with_reducible repeat (first | apply uU | apply uS | apply uT)); exact HO_12.out⟩, ⟨pb HB⟩⟩
              ·rw [if_neg c43] at H
               have c43b0 : ((rd t160 x14_3) == 0) = false := beq_eq_false_iff_ne.mpr c43
               have c43b1 : ((rd t160 x14_3) != 0) = true := bne_iff_ne.mpr c43
               have H' := uD H
               clear H
               have p163 : 0 ≤ (x14_3 : Int) := of_decide_eq_true (by first | (with_reducible assumption) | assumption)
               have q163 : x14_3 < (l1.length : Int) := of_decide_eq_true (by first | (with_reducible assumption) | assumption)
               obtain ⟨ad163, e163, hx163_0, hx163_1⟩ := at_T49 HR1.out x14_3 p163 q163
               cases e163
               replace hx163_0 := (HB.out.cell (World.block_lt_of_cell? w _ hx163_0)).trans hx163_0
               replace hx163_1 := (HB.out.cell (World.block_lt_of_cell? w _ hx163_1)).trans hx163_1
               replace p163 := eq_true p163
               replace q163 := eq_true q163
               have p164 : 0 ≤ (x14_3 : Int) := of_decide_eq_true (by first | (with_reducible assumption) | assumption)
               have q164 : x14_3 < (t160.length : Int) := of_decide_eq_true (by first | (with_reducible assumption) | assumption)
               obtain ⟨ad164, e164, hx164_0⟩ := Kd.at_int (Kd.R_reads' HO_12.out).2.2 x14_3 p164 q164
               cases e164
               replace p164 := eq_true p164
               replace q164 := eq_true q164
               go_wp2
               repeat (go_quiet (fail); try go_wp2)
               go_roundg k3
               case measure => have := HJ3.out; have := HK2.out; have := HK3.out; omega
               case rel => exact ⟨(wrap64 (x13_3 + 1)), (wrap64 (x14_3 + 1)), (by first | rfl | (simp; done) | (simp [*]; done)), (by first | rfl | (simp; done) | (simp [*]; done)), H', ⟨by have := HJ3.out; have := HK2.out; have := HK3.out; omega⟩, ⟨by (with_reducible repeat (first | apply uU | apply uS | apply uT)); exact HO_12.out⟩, ⟨pb HB⟩⟩
             ·rw [if_neg c42] at H
              have c42b0 : (((rd_T49 l1 x14_3).f1) == 0) = false := beq_eq_false_iff_ne.mpr c42
              have c42b1 : (((rd_T49 l1 x14_3).f1) != 0) = true := bne_iff_ne.mpr c42
              have H' := uD H
              clear H
              have p163 : 0 ≤ (x14_3 : Int) := of_decide_eq_true (by first | (with_reducible assumption) | assumption)
              have q163 : x14_3 < (l1.length : Int) := of_decide_eq_true (by first | (with_reducible assumption) | assumption)
              obtain ⟨ad163, e163, hx163_0, hx163_1⟩ := at_T49 HR1.out x14_3 p163 q163
              cases e163
              replace hx163_0 := (HB.out.cell (World.block_lt_of_cell? w _ hx163_0)).trans hx163_0
              replace hx163_1 := (HB.out.cell (World.block_lt_of_cell? w _ hx163_1)).trans hx163_1
              replace p163 := eq_true p163
              replace q163 := eq_true q163
              go_wp2
              repeat (go_quiet (fail); try go_wp2)
              go_roundg k3
              case measure => have := HJ3.out; have := HK2.out; have := HK3.out; omega
              case rel => exact ⟨(x13_3), (wrap64 (x14_3 + 1)), (by first | rfl | (simp; done) | (simp [*]; done)), (by first | rfl | (simp; done) | (simp [*]; done)), H', ⟨by have := HJ3.out; have := HK2.out; have := HK3.out; omega⟩, ⟨by (with_reducible repeat (first | apply uU | apply uS | apply uT)); exact HO_12.out⟩, ⟨pb HB⟩⟩
            ·rw [if_neg c41] at H
             exact absurd H (by simp)
           ·rw [if_neg c40] at H
            exact absurd H (by simp)
          ·rw [if_neg c39] at H
           have c39b0 : decide (x14_3 < (t160.length : Int)) = false := decide_eq_false c39
           clear c39
           by_cases c44 : x7_2 ≤ x13_3
           ·rw [if_pos c44] at H
            have c44b0 : decide (x7_2 ≤ x13_3) = true := decide_eq_true c44
            clear c44
            replace H := Option.bind_eq_some_iff.mp H
            obtain ⟨t165, A450, H⟩ := H
            replace H : (some (x13_3 == t165)) = some true := H
            have A45 := uD A450
            clear A450
            have HT := Option.some.inj H
            clear H
            go_wp2_with (first | (go_at_call 33; (with_reducible refine (impl_MostAssigned.calls k3 _ _ l0 _ _ l1 t165 _ ?side1 ?side2 ?side3 ?side4 A45.out).mono ?_); (case side1 => repeat (first | exact (Kd.C_below HR0.out HB.out) | (with_reducible refine Kd.C_alloc ?_ _) | (with_reducible refine Kd.C_drewN ?_ _) | (with_reducible refine Kd.C_drew ?_))); (case side2 => exact HC0.out); (case side3 => repeat (first | exact (Kd.C_below HR1.out HB.out) | (with_reducible refine Kd.C_alloc ?_ _) | (with_reducible refine Kd.C_drewN ?_ _) | (with_reducible refine Kd.C_drew ?_))); (case side4 => exact HC1.out); rintro e w46 ⟨rfl, hb⟩; replace HO_12 := uD (Kd.R_below (pr HO_12) hb); replace HB := uD (uO (pb HB) hb); (try clear hb); (try clear hb2); (try clear hk); (try clear hi)))
            repeat (go_quiet (first | (go_at_call 33; (with_reducible refine (impl_MostAssigned.calls k3 _ _ l0 _ _ l1 t165 _ ?side1 ?side2 ?side3 ?side4 A45.out).mono ?_); (case side1 => repeat (first | exact (Kd.C_below HR0.out HB.out) | (with_reducible refine Kd.C_alloc ?_ _) | (with_reducible refine Kd.C_drewN ?_ _) | (with_reducible refine Kd.C_drew ?_))); (case side2 => exact HC0.out); (case side3 => repeat (first | exact (Kd.C_below HR1.out HB.out) | (with_reducible refine Kd.C_alloc ?_ _) | (with_reducible refine Kd.C_drewN ?_ _) | (with_reducible refine Kd.C_drew ?_))); (case side4 => exact HC1.out); rintro e w46 ⟨rfl, hb⟩; replace HO_12 := uD (Kd.R_below (pr HO_12) hb); replace HB := uD (uO (pb HB) hb); (try clear hb); (try clear hb2); (try clear hk); (try clear hi))); try go_wp2_with (first | (go_at_call 33; (with_reducible refine (impl_MostAssigned.calls k3 _ _ l0 _ _ l1 t165 _ ?side1 ?side2 ?side3 ?side4 A45.out).mono ?_); (case side1 => repeat (first | exact (Kd.C_below HR0.out HB.out) | (with_reducible refine Kd.C_alloc ?_ _) | (with_reducible refine Kd.C_drewN ?_ _) | (with_reducible refine Kd.C_drew ?_))); (case side2 => exact HC0.out); (case side3 => repeat (first | exact (Kd.C_below HR1.out HB.out) | (with_reducible refine Kd.C_alloc ?_ _) | (with_reducible refine Kd.C_drewN ?_ _) | (with_reducible refine Kd.C_drew ?_))); (case side4 => exact HC1.out); rintro e w46 ⟨rfl, hb⟩; replace HO_12 := uD (Kd.R_below (pr HO_12) hb); replace HB := uD (uO (pb HB) hb); (try clear hb); (try clear hb2); (try clear hk); (try clear hi))))
            go_ret
            exact ⟨by first | rfl | (simp [errW_none, errW_some] <;> rfl) | (simp [*, errW_none, errW_some] <;> rfl), pb HB⟩
           ·rw [if_neg c44] at H
            have c44b0 : decide (x7_2 ≤ x13_3) = false := decide_eq_false c44
            clear c44
            exact absurd H (by simp)
       ·rw [if_neg c36] at H
        have c36b0 : ((t160.length : Int) == (l1.length : Int)) = false := beq_eq_false_iff_ne.mpr c36
        have c36b1 : ((t160.length : Int) != (l1.length : Int)) = true := bne_iff_ne.mpr c36
        have c36b2 : (t160.length == l1.length) = false := by first | simpa using c36 | (simp at c36 ⊢; omega)
        exact absurd H (by simp)

/-- THE ONE PURE STATEMENT of laws_FnEveryTaking. -/
def laws_FnEveryTaking.Pure : Prop := ∀ (l0 : List (S47)) (l1 : List (S49)) (l2 : List Int), l0.length ≤ 9223372036854775807 → (∀ y ∈ l0, (Lit.int .i64 y.f0).wf = true ∧ (Lit.int .i64 y.f1).wf = true ∧ (Lit.int .i64 y.f2).wf = true) → l1.length ≤ 9223372036854775807 → (∀ y ∈ l1, (Lit.int .i64 y.f0).wf = true ∧ (Lit.int .i64 y.f1).wf = true) → l2.length ≤ 9223372036854775807 → (∀ y ∈ l2, (Lit.int .i64 y).wf = true) → ∃ k, laws_FnEveryTaking.f k l0 l1 l2 = some true

end Go.Proofs.Ytnnimbbffbfhoaa.PFnEveryTaking
