-- Written by a program of this session (wip/myprint.py: the kit's print with changes): not by print.sh itself.
import Derived.Test.YtnnimbbffbfhoaaPFnAssignedx0
import Derived.Test.YtnnimbbffbfhoaaPFnAssignedx3
import Derived.Test.YtnnimbbffbfhoaaPFnAssignedx4
import Derived.Test.YtnnimbbffbfhoaaPFnAssignedx5
namespace Go.Proofs.Ytnnimbbffbfhoaa.PFnAssigned
open Go.RowKit Go.Proofs.YtnnimbbffbfhoaaW.PrintWords Go.Proofs.YtnnimbbffbfhoaaW.PrintLast Go.Proofs.YtnnimbbffbfhoaaW.PrintMore
open Go renaming Act.put → uc
open Go.Proofs.YtnnimbbffbfhoaaW.PrintLast renaming i64_w → uZ, i32_w → ua
open Go.Proofs.YtnnimbbffbfhoaaW.PrintWords renaming Aside0.mk → uD, below_size → uN, below_step → uO, Kd.R_drewN → uS, Kd.R_drew → uT, Kd.R_alloc → uU
open List renaming setIfInBounds_toArray → uA, set_cons_zero → uB, set_cons_succ → uC
attribute [local go_sem] max2_int min2_int max_two min_two max_three min_three max_four min_four   -- for this text's walks alone
set_option linter.unusedVariables false
set_option linter.unusedSimpArgs false

/-! ### spec_Assign: function 23 -/
mutual
def spec_Assign.j0 : Nat → List (S47) → List (S49) → List Int → Bool → Option (List Int)
 | 0, _, _, _, _ => none
 | k + 1, x0, x1, x5, x17 => if x17 = true then (some x5) else (spec_Assign.l0 k x0 x1 x5 0)
def spec_Assign.l0 : Nat → List (S47) → List (S49) → List Int → Int → Option (List Int)
 | 0, _, _, _, _ => none
 | k + 1, x0, x1, x5, x6 => if x6 < (x1.length : Int) then (spec_Assign.l1 k x0 x1 x5 x6 (-1) 0) else (some x5)
def spec_Assign.l1 : Nat → List (S47) → List (S49) → List Int → Int → Int → Int → Option (List Int)
 | 0, _, _, _, _, _, _ => none
 | k + 1, x0, x1, x5, x6, x7, x8 => if x8 < (x0.length : Int) then (if 0 ≤ x6 then (if x6 < (x1.length : Int) then (spec_Assign.j3 k x0 x1 x5 x6 x7 x8 (((rd_T49 x1 x6).f1) == 0)) else (none)) else (none)) else (spec_Assign.j3 k x0 x1 x5 x6 x7 x8 false)
def spec_Assign.j3 : Nat → List (S47) → List (S49) → List Int → Int → Int → Int → Bool → Option (List Int)
 | 0, _, _, _, _, _, _, _ => none
 | k + 1, x0, x1, x5, x6, x7, x8, x36 => if x36 = true then ((spec_l03Fits.f k x0 x1 x6 x8).bind fun t147 => (if t147 = true then (if 0 ≤ x8 then (if x8 < (x0.length : Int) then ((spec_l03Has.f k x5 ((rd_T47 x0 x8).f0)).bind fun t149 => (spec_Assign.j4 k x0 x1 x5 x6 x7 x8 t149)) else (none)) else (none)) else (spec_Assign.j4 k x0 x1 x5 x6 x7 x8 true))) else (if x7 ≥ 0 then (if 0 ≤ x7 then (if x7 < (x0.length : Int) then (if x5.length < 17592186044416 then (spec_Assign.l0 k x0 x1 (x5 ++ [(rd_T47 x0 x7).f0]) (wrap64 (x6 + 1))) else (none)) else (none)) else (none)) else (if 0 ≤ x6 then (if x6 < (x1.length : Int) then (if x5.length < 17592186044416 then (spec_Assign.l0 k x0 x1 (x5 ++ [(rd_T49 x1 x6).f1]) (wrap64 (x6 + 1))) else (none)) else (none)) else (none)))
def spec_Assign.j4 : Nat → List (S47) → List (S49) → List Int → Int → Int → Int → Bool → Option (List Int)
 | 0, _, _, _, _, _, _, _ => none
 | k + 1, x0, x1, x5, x6, x7, x8, x53 => if x53 = true then (spec_Assign.l1 k x0 x1 x5 x6 x7 (wrap64 (x8 + 1))) else (if x7 < 0 then (spec_Assign.l1 k x0 x1 x5 x6 x8 (wrap64 (x8 + 1))) else (if 0 ≤ x8 then (if x8 < (x0.length : Int) then (if 0 ≤ x7 then (if x7 < (x0.length : Int) then (if ((rd_T47 x0 x8).f2) < ((rd_T47 x0 x7).f2) then (spec_Assign.l1 k x0 x1 x5 x6 x8 (wrap64 (x8 + 1))) else (if ((rd_T47 x0 x8).f2) = ((rd_T47 x0 x7).f2) then (if ((rd_T47 x0 x8).f0) < ((rd_T47 x0 x7).f0) then (spec_Assign.l1 k x0 x1 x5 x6 x8 (wrap64 (x8 + 1))) else (spec_Assign.l1 k x0 x1 x5 x6 x7 (wrap64 (x8 + 1)))) else (spec_Assign.l1 k x0 x1 x5 x6 x7 (wrap64 (x8 + 1))))) else (none)) else (none)) else (none)) else (none)))
end
def spec_Assign.f (k : Nat) (l0 : List (S47)) (l1 : List (S49)) : Option (List Int) := (some (([] : List Int) : List Int)).bind fun y133 => ((spec_ExpectOk.f k l0).bind fun t136 => (if t136 = true then ((spec_SightsOk.f k l1).bind fun t137 => (spec_Assign.j0 k l0 l1 y133 (!t137))) else (spec_Assign.j0 k l0 l1 y133 true)))
theorem spec_Assign.mono_l : ∀ k, (∀ y0 y1 y2 y3, LeO (spec_Assign.j0 k y0 y1 y2 y3) (spec_Assign.j0 (k + 1) y0 y1 y2 y3)) ∧ (∀ y0 y1 y2 y3, LeO (spec_Assign.l0 k y0 y1 y2 y3) (spec_Assign.l0 (k + 1) y0 y1 y2 y3)) ∧ (∀ y0 y1 y2 y3 y4 y5, LeO (spec_Assign.l1 k y0 y1 y2 y3 y4 y5) (spec_Assign.l1 (k + 1) y0 y1 y2 y3 y4 y5)) ∧ (∀ y0 y1 y2 y3 y4 y5 y6, LeO (spec_Assign.j3 k y0 y1 y2 y3 y4 y5 y6) (spec_Assign.j3 (k + 1) y0 y1 y2 y3 y4 y5 y6)) ∧ (∀ y0 y1 y2 y3 y4 y5 y6, LeO (spec_Assign.j4 k y0 y1 y2 y3 y4 y5 y6) (spec_Assign.j4 (k + 1) y0 y1 y2 y3 y4 y5 y6))
 | 0 => ⟨fun _ _ _ _ r h => by simp [spec_Assign.j0] at h, fun _ _ _ _ r h => by simp [spec_Assign.l0] at h, fun _ _ _ _ _ _ r h => by simp [spec_Assign.l1] at h, fun _ _ _ _ _ _ _ r h => by simp [spec_Assign.j3] at h, fun _ _ _ _ _ _ _ r h => by simp [spec_Assign.j4] at h⟩
 | k + 1 => by
  obtain ⟨ih0, ih1, ih2, ih3, ih4⟩ := spec_Assign.mono_l k
  refine ⟨?_, ?_, ?_, ?_, ?_⟩
  ·intro y0 y1 y2 y3
   unfold spec_Assign.j0
   repeat' first
   | (with_reducible exact ih0 _ _ _ _)
   | (with_reducible exact ih1 _ _ _ _)
   | (with_reducible exact ih2 _ _ _ _ _ _)
   | (with_reducible exact ih3 _ _ _ _ _ _ _)
   | (with_reducible exact ih4 _ _ _ _ _ _ _)
   | (with_reducible exact spec_ExpectOk.mono _ _)
   | (with_reducible exact spec_SightsOk.mono _ _)
   | (with_reducible exact spec_l03Fits.mono _ _ _ _ _)
   | (with_reducible exact spec_l03Has.mono _ _ _)
   | (with_reducible exact LeO.refl _)
   | (with_reducible exact LeO.none _)
   | (with_reducible refine LeO.ite ?_ ?_)
   | (with_reducible refine LeO.bind ?_ (fun _ => ?_))
   | exact ih0 _ _ _ _
   | exact ih1 _ _ _ _
   | exact ih2 _ _ _ _ _ _
   | exact ih3 _ _ _ _ _ _ _
   | exact ih4 _ _ _ _ _ _ _
   | exact spec_ExpectOk.mono _ _
   | exact spec_SightsOk.mono _ _
   | exact spec_l03Fits.mono _ _ _ _ _
   | exact spec_l03Has.mono _ _ _
   | exact LeO.none _
   | refine LeO.ite ?_ ?_
   | refine LeO.bind ?_ (fun _ => ?_)
  ·intro y0 y1 y2 y3
   unfold spec_Assign.l0
   repeat' first
   | (with_reducible exact ih0 _ _ _ _)
   | (with_reducible exact ih1 _ _ _ _)
   | (with_reducible exact ih2 _ _ _ _ _ _)
   | (with_reducible exact ih3 _ _ _ _ _ _ _)
   | (with_reducible exact ih4 _ _ _ _ _ _ _)
   | (with_reducible exact spec_ExpectOk.mono _ _)
   | (with_reducible exact spec_SightsOk.mono _ _)
   | (with_reducible exact spec_l03Fits.mono _ _ _ _ _)
   | (with_reducible exact spec_l03Has.mono _ _ _)
   | (with_reducible exact LeO.refl _)
   | (with_reducible exact LeO.none _)
   | (with_reducible refine LeO.ite ?_ ?_)
   | (with_reducible refine LeO.bind ?_ (fun _ => ?_))
   | exact ih0 _ _ _ _
   | exact ih1 _ _ _ _
   | exact ih2 _ _ _ _ _ _
   | exact ih3 _ _ _ _ _ _ _
   | exact ih4 _ _ _ _ _ _ _
   | exact spec_ExpectOk.mono _ _
   | exact spec_SightsOk.mono _ _
   | exact spec_l03Fits.mono _ _ _ _ _
   | exact spec_l03Has.mono _ _ _
   | exact LeO.none _
   | refine LeO.ite ?_ ?_
   | refine LeO.bind ?_ (fun _ => ?_)
  ·intro y0 y1 y2 y3 y4 y5
   unfold spec_Assign.l1
   repeat' first
   | (with_reducible exact ih0 _ _ _ _)
   | (with_reducible exact ih1 _ _ _ _)
   | (with_reducible exact ih2 _ _ _ _ _ _)
   | (with_reducible exact ih3 _ _ _ _ _ _ _)
   | (with_reducible exact ih4 _ _ _ _ _ _ _)
   | (with_reducible exact spec_ExpectOk.mono _ _)
   | (with_reducible exact spec_SightsOk.mono _ _)
   | (with_reducible exact spec_l03Fits.mono _ _ _ _ _)
   | (with_reducible exact spec_l03Has.mono _ _ _)
   | (with_reducible exact LeO.refl _)
   | (with_reducible exact LeO.none _)
   | (with_reducible refine LeO.ite ?_ ?_)
   | (with_reducible refine LeO.bind ?_ (fun _ => ?_))
   | exact ih0 _ _ _ _
   | exact ih1 _ _ _ _
   | exact ih2 _ _ _ _ _ _
   | exact ih3 _ _ _ _ _ _ _
   | exact ih4 _ _ _ _ _ _ _
   | exact spec_ExpectOk.mono _ _
   | exact spec_SightsOk.mono _ _
   | exact spec_l03Fits.mono _ _ _ _ _
   | exact spec_l03Has.mono _ _ _
   | exact LeO.none _
   | refine LeO.ite ?_ ?_
   | refine LeO.bind ?_ (fun _ => ?_)
  ·intro y0 y1 y2 y3 y4 y5 y6
   unfold spec_Assign.j3
   repeat' first
   | (with_reducible exact ih0 _ _ _ _)
   | (with_reducible exact ih1 _ _ _ _)
   | (with_reducible exact ih2 _ _ _ _ _ _)
   | (with_reducible exact ih3 _ _ _ _ _ _ _)
   | (with_reducible exact ih4 _ _ _ _ _ _ _)
   | (with_reducible exact spec_ExpectOk.mono _ _)
   | (with_reducible exact spec_SightsOk.mono _ _)
   | (with_reducible exact spec_l03Fits.mono _ _ _ _ _)
   | (with_reducible exact spec_l03Has.mono _ _ _)
   | (with_reducible exact LeO.refl _)
   | (with_reducible exact LeO.none _)
   | (with_reducible refine LeO.ite ?_ ?_)
   | (with_reducible refine LeO.bind ?_ (fun _ => ?_))
   | exact ih0 _ _ _ _
   | exact ih1 _ _ _ _
   | exact ih2 _ _ _ _ _ _
   | exact ih3 _ _ _ _ _ _ _
   | exact ih4 _ _ _ _ _ _ _
   | exact spec_ExpectOk.mono _ _
   | exact spec_SightsOk.mono _ _
   | exact spec_l03Fits.mono _ _ _ _ _
   | exact spec_l03Has.mono _ _ _
   | exact LeO.none _
   | refine LeO.ite ?_ ?_
   | refine LeO.bind ?_ (fun _ => ?_)
  ·intro y0 y1 y2 y3 y4 y5 y6
   unfold spec_Assign.j4
   repeat' first
   | (with_reducible exact ih0 _ _ _ _)
   | (with_reducible exact ih1 _ _ _ _)
   | (with_reducible exact ih2 _ _ _ _ _ _)
   | (with_reducible exact ih3 _ _ _ _ _ _ _)
   | (with_reducible exact ih4 _ _ _ _ _ _ _)
   | (with_reducible exact spec_ExpectOk.mono _ _)
   | (with_reducible exact spec_SightsOk.mono _ _)
   | (with_reducible exact spec_l03Fits.mono _ _ _ _ _)
   | (with_reducible exact spec_l03Has.mono _ _ _)
   | (with_reducible exact LeO.refl _)
   | (with_reducible exact LeO.none _)
   | (with_reducible refine LeO.ite ?_ ?_)
   | (with_reducible refine LeO.bind ?_ (fun _ => ?_))
   | exact ih0 _ _ _ _
   | exact ih1 _ _ _ _
   | exact ih2 _ _ _ _ _ _
   | exact ih3 _ _ _ _ _ _ _
   | exact ih4 _ _ _ _ _ _ _
   | exact spec_ExpectOk.mono _ _
   | exact spec_SightsOk.mono _ _
   | exact spec_l03Fits.mono _ _ _ _ _
   | exact spec_l03Has.mono _ _ _
   | exact LeO.none _
   | refine LeO.ite ?_ ?_
   | refine LeO.bind ?_ (fun _ => ?_)
theorem spec_Assign.mono : ∀ a0 a1 k, LeO (spec_Assign.f k a0 a1) (spec_Assign.f (k + 1) a0 a1) := by
 intro a0 a1 k
 obtain ⟨ih0, ih1, ih2, ih3, ih4⟩ := spec_Assign.mono_l k
 unfold spec_Assign.f
 repeat' first
   | (with_reducible exact ih0 _ _ _ _)
   | (with_reducible exact ih1 _ _ _ _)
   | (with_reducible exact ih2 _ _ _ _ _ _)
   | (with_reducible exact ih3 _ _ _ _ _ _ _)
   | (with_reducible exact ih4 _ _ _ _ _ _ _)
   | (with_reducible exact spec_ExpectOk.mono _ _)
   | (with_reducible exact spec_SightsOk.mono _ _)
   | (with_reducible exact spec_l03Fits.mono _ _ _ _ _)
   | (with_reducible exact spec_l03Has.mono _ _ _)
   | (with_reducible exact LeO.refl _)
   | (with_reducible exact LeO.none _)
   | (with_reducible refine LeO.ite ?_ ?_)
   | (with_reducible refine LeO.bind ?_ (fun _ => ?_))
   | exact ih0 _ _ _ _
   | exact ih1 _ _ _ _
   | exact ih2 _ _ _ _ _ _
   | exact ih3 _ _ _ _ _ _ _
   | exact ih4 _ _ _ _ _ _ _
   | exact spec_ExpectOk.mono _ _
   | exact spec_SightsOk.mono _ _
   | exact spec_l03Fits.mono _ _ _ _ _
   | exact spec_l03Has.mono _ _ _
   | exact LeO.none _
   | refine LeO.ite ?_ ?_
   | refine LeO.bind ?_ (fun _ => ?_)
set_option maxHeartbeats 8000000 in
set_option maxRecDepth 100000 in
theorem spec_Assign.calls (k : Nat) (A0 : Option Addr) (c0 : Nat) (l0 : List (S47)) (A1 : Option Addr) (c1 : Nat) (l1 : List (S49)) (r : List Int) (w : World) (hr0 : Kd.C k47 w A0 l0.length l0) (hc0 : l0.length ≤ c0) (hr1 : Kd.C k49 w A1 l1.length l1) (hc1 : l1.length ≤ c1) (h : spec_Assign.f k l0 l1 = some r) :
  Calls Try.prog 23 #[.slice A0 l0.length c0, .slice A1 l1.length c1] w fun e w' => ∃ v0_ : Value, e = .returned (v0_) ∧ Kd.R (Kd.int .i64) 3 w' w.heap.size (fun _ => True) v0_ r ∧ Below w.heap.size w w' := by
 have HR0 := uD hr0
 have HC0 := uD hc0
 clear hr0 hc0
 have HR1 := uD hr1
 have HC1 := uD hc1
 clear hr1 hc1
 have HB := uD (Below.refl w.heap.size w)
 have H : ((some (([] : List Int) : List Int)).bind fun y133 => ((spec_ExpectOk.f k l0).bind fun t136 => (if t136 = true then ((spec_SightsOk.f k l1).bind fun t137 => (spec_Assign.j0 k l0 l1 y133 (!t137))) else (spec_Assign.j0 k l0 l1 y133 true)))) = some r := h
 clear h
 obtain ⟨y133, hy133⟩ : ∃ y_ : List Int, y_ = (([] : List Int)) := ⟨_, rfl⟩
 replace H : ((spec_ExpectOk.f k l0).bind fun t136 => (if t136 = true then ((spec_SightsOk.f k l1).bind fun t137 => (spec_Assign.j0 k l0 l1 y133 (!t137))) else (spec_Assign.j0 k l0 l1 y133 true))) = some r := by first | (rw [hy133]; with_reducible exact H) | (have H2_ := (Option.bind_some _ _).symm.trans H; rw [hy133]; with_reducible exact H2_) | (have H2_ := (Option.bind_some _ _).symm.trans H; with_reducible exact H2_) | with_reducible exact H | (rw [hy133]; exact H) | exact H
 have Ny133 := uD hy133
 clear hy133
 have HC3 := uD H
 clear H
 go_enter Try.func23, Try.ntmps23
 go_upto_region 2 with (first | ((with_reducible refine gate_dst (N := 9) rfl ?_); refine Kd.R_lit (Kd.int .i64) _ 3 ?hg (N := 9) ?hd (xs := ([] : List Int)) (inner := []) (ok := fun _ => True) (okp := fun _ => True) ?hr ?hp (fun _ hk => hk) trivial (Below.refl _ _) (Nat.le_refl _) (by simp) ?_; (case hd => rfl); (case hg => rfl); (case hr => first | (go_simp; done) | (go_simp; rfl)); (case hp => exact (Reps.none _ _)); intro v134 w4 ho5 hb hg_ hnew_; clear hg_ hnew_; (first | rw [← Ny133.out] at ho5 | (simp only [Int.reduceToNat] at ho5; rw [← Ny133.out] at ho5)); have HO135 := uD (Kd.R_lower ho5 (uN (pb HB))); replace HB := uD (uO (pb HB) hb); clear hb ho5))
 repeat (go_quiet (first | ((with_reducible refine gate_dst (N := 9) rfl ?_); refine Kd.R_lit (Kd.int .i64) _ 3 ?hg (N := 9) ?hd (xs := ([] : List Int)) (inner := []) (ok := fun _ => True) (okp := fun _ => True) ?hr ?hp (fun _ hk => hk) trivial (Below.refl _ _) (Nat.le_refl _) (by simp) ?_; (case hd => rfl); (case hg => rfl); (case hr => first | (go_simp; done) | (go_simp; rfl)); (case hp => exact (Reps.none _ _)); intro v134 w4 ho5 hb hg_ hnew_; clear hg_ hnew_; (first | rw [← Ny133.out] at ho5 | (simp only [Int.reduceToNat] at ho5; rw [← Ny133.out] at ho5)); have HO135 := uD (Kd.R_lower ho5 (uN (pb HB))); replace HB := uD (uO (pb HB) hb); clear hb ho5)); go_upto_region 2 with (first | ((with_reducible refine gate_dst (N := 9) rfl ?_); refine Kd.R_lit (Kd.int .i64) _ 3 ?hg (N := 9) ?hd (xs := ([] : List Int)) (inner := []) (ok := fun _ => True) (okp := fun _ => True) ?hr ?hp (fun _ hk => hk) trivial (Below.refl _ _) (Nat.le_refl _) (by simp) ?_; (case hd => rfl); (case hg => rfl); (case hr => first | (go_simp; done) | (go_simp; rfl)); (case hp => exact (Reps.none _ _)); intro v134 w4 ho5 hb hg_ hnew_; clear hg_ hnew_; (first | rw [← Ny133.out] at ho5 | (simp only [Int.reduceToNat] at ho5; rw [← Ny133.out] at ho5)); have HO135 := uD (Kd.R_lower ho5 (uN (pb HB))); replace HB := uD (uO (pb HB) hb); clear hb ho5)))
 (try simp only [uc, uA, uB, uC])
 go_cut [17] (fun v17 wc => ∃ (kq : Nat) (x17_2 : Bool), v17 = .bool x17_2 ∧ Aside0 (spec_Assign.j0 kq l0 l1 y133 x17_2 = some r) ∧ Aside0 (kq ≤ k) ∧ Aside0 (Kd.R (Kd.int .i64) 3 wc w.heap.size (fun _ => True) v134 y133) ∧ Aside0 (Below w.heap.size w wc))
 case first =>
  have H := HC3.out
  clear HC3
  replace H := Option.bind_eq_some_iff.mp H
  obtain ⟨t136, A60, H⟩ := H
  replace H : (if t136 = true then ((spec_SightsOk.f k l1).bind fun t137 => (spec_Assign.j0 k l0 l1 y133 (!t137))) else (spec_Assign.j0 k l0 l1 y133 true)) = some r := H
  have A6 := uD A60
  clear A60
  by_cases c7 : t136 = true
  ·subst c7
   have H1 : ((spec_SightsOk.f k l1).bind fun t137 => (spec_Assign.j0 k l0 l1 y133 (!t137))) = some r := by rw [if_pos rfl] at H; first | done | exact H
   clear H
   have H := H1
   clear H1
   replace H := Option.bind_eq_some_iff.mp H
   obtain ⟨t137, A80, H⟩ := H
   replace H : (spec_Assign.j0 k l0 l1 y133 (!t137)) = some r := H
   have A8 := uD A80
   clear A80
   have H' := uD H
   clear H
   go_wp2_with (first | (go_at_call 14; (with_reducible refine (spec_ExpectOk.calls k _ _ l0 true _ ?side1 ?side2 A6.out).mono ?_); (case side1 => repeat (first | exact (Kd.C_below HR0.out HB.out) | (with_reducible refine Kd.C_alloc ?_ _) | (with_reducible refine Kd.C_drewN ?_ _) | (with_reducible refine Kd.C_drew ?_))); (case side2 => exact HC0.out); rintro e w' ⟨rfl, ⟨nd, rfl⟩⟩; (try first | exact ⟨rfl, _, World.drewN_drewN _ _ _⟩ | exact ⟨rfl, _, Eq.trans (World.drewN_drewN _ _ _) (congrArg (World.drewN _) (Nat.add_assoc _ _ _))⟩)) | (go_at_call 19; (with_reducible refine (spec_SightsOk.calls k _ _ l1 t137 _ ?side1 ?side2 A8.out).mono ?_); (case side1 => repeat (first | exact (Kd.C_below HR1.out (pb HB)) | (with_reducible refine Kd.C_alloc ?_ _) | (with_reducible refine Kd.C_drewN ?_ _) | (with_reducible refine Kd.C_drew ?_))); (case side2 => exact HC1.out); rintro e w9 ⟨rfl, hb⟩; replace HO135 := uD (Kd.R_below (pr HO135) hb); replace HB := uD (uO (pb HB) hb); (try clear hb); (try clear hb2); (try clear hk); (try clear hi)))
   repeat (go_quiet (first | (go_at_call 14; (with_reducible refine (spec_ExpectOk.calls k _ _ l0 true _ ?side1 ?side2 A6.out).mono ?_); (case side1 => repeat (first | exact (Kd.C_below HR0.out HB.out) | (with_reducible refine Kd.C_alloc ?_ _) | (with_reducible refine Kd.C_drewN ?_ _) | (with_reducible refine Kd.C_drew ?_))); (case side2 => exact HC0.out); rintro e w' ⟨rfl, ⟨nd, rfl⟩⟩; (try first | exact ⟨rfl, _, World.drewN_drewN _ _ _⟩ | exact ⟨rfl, _, Eq.trans (World.drewN_drewN _ _ _) (congrArg (World.drewN _) (Nat.add_assoc _ _ _))⟩)) | (go_at_call 19; (with_reducible refine (spec_SightsOk.calls k _ _ l1 t137 _ ?side1 ?side2 A8.out).mono ?_); (case side1 => repeat (first | exact (Kd.C_below HR1.out (pb HB)) | (with_reducible refine Kd.C_alloc ?_ _) | (with_reducible refine Kd.C_drewN ?_ _) | (with_reducible refine Kd.C_drew ?_))); (case side2 => exact HC1.out); rintro e w9 ⟨rfl, hb⟩; replace HO135 := uD (Kd.R_below (pr HO135) hb); replace HB := uD (uO (pb HB) hb); (try clear hb); (try clear hb2); (try clear hk); (try clear hi))); try go_wp2_with (first | (go_at_call 14; (with_reducible refine (spec_ExpectOk.calls k _ _ l0 true _ ?side1 ?side2 A6.out).mono ?_); (case side1 => repeat (first | exact (Kd.C_below HR0.out HB.out) | (with_reducible refine Kd.C_alloc ?_ _) | (with_reducible refine Kd.C_drewN ?_ _) | (with_reducible refine Kd.C_drew ?_))); (case side2 => exact HC0.out); rintro e w' ⟨rfl, ⟨nd, rfl⟩⟩; (try first | exact ⟨rfl, _, World.drewN_drewN _ _ _⟩ | exact ⟨rfl, _, Eq.trans (World.drewN_drewN _ _ _) (congrArg (World.drewN _) (Nat.add_assoc _ _ _))⟩)) | (go_at_call 19; (with_reducible refine (spec_SightsOk.calls k _ _ l1 t137 _ ?side1 ?side2 A8.out).mono ?_); (case side1 => repeat (first | exact (Kd.C_below HR1.out (pb HB)) | (with_reducible refine Kd.C_alloc ?_ _) | (with_reducible refine Kd.C_drewN ?_ _) | (with_reducible refine Kd.C_drew ?_))); (case side2 => exact HC1.out); rintro e w9 ⟨rfl, hb⟩; replace HO135 := uD (Kd.R_below (pr HO135) hb); replace HB := uD (uO (pb HB) hb); (try clear hb); (try clear hb2); (try clear hk); (try clear hi))))
   go_meet
   case rel => exact ⟨_, (!t137), (by first | rfl | (simp; done) | (simp [*]; done)), H', ⟨by first | omega | exact Nat.le_refl _⟩, ⟨by (with_reducible repeat (first | apply uU | apply uS | apply uT)); exact HO135.out⟩, ⟨pb HB⟩⟩
  ·replace c7 := Bool.eq_false_iff.mpr c7
   subst c7
   have H1 : (spec_Assign.j0 k l0 l1 y133 true) = some r := by rw [if_neg (show ¬ (false = true) by decide)] at H; first | done | exact H
   clear H
   have H := H1
   clear H1
   have H' := uD H
   clear H
   go_wp2_with (first | (go_at_call 14; (with_reducible refine (spec_ExpectOk.calls k _ _ l0 false _ ?side1 ?side2 A6.out).mono ?_); (case side1 => repeat (first | exact (Kd.C_below HR0.out HB.out) | (with_reducible refine Kd.C_alloc ?_ _) | (with_reducible refine Kd.C_drewN ?_ _) | (with_reducible refine Kd.C_drew ?_))); (case side2 => exact HC0.out); rintro e w' ⟨rfl, ⟨nd, rfl⟩⟩; (try first | exact ⟨rfl, _, World.drewN_drewN _ _ _⟩ | exact ⟨rfl, _, Eq.trans (World.drewN_drewN _ _ _) (congrArg (World.drewN _) (Nat.add_assoc _ _ _))⟩)))
   repeat (go_quiet (first | (go_at_call 14; (with_reducible refine (spec_ExpectOk.calls k _ _ l0 false _ ?side1 ?side2 A6.out).mono ?_); (case side1 => repeat (first | exact (Kd.C_below HR0.out HB.out) | (with_reducible refine Kd.C_alloc ?_ _) | (with_reducible refine Kd.C_drewN ?_ _) | (with_reducible refine Kd.C_drew ?_))); (case side2 => exact HC0.out); rintro e w' ⟨rfl, ⟨nd, rfl⟩⟩; (try first | exact ⟨rfl, _, World.drewN_drewN _ _ _⟩ | exact ⟨rfl, _, Eq.trans (World.drewN_drewN _ _ _) (congrArg (World.drewN _) (Nat.add_assoc _ _ _))⟩))); try go_wp2_with (first | (go_at_call 14; (with_reducible refine (spec_ExpectOk.calls k _ _ l0 false _ ?side1 ?side2 A6.out).mono ?_); (case side1 => repeat (first | exact (Kd.C_below HR0.out HB.out) | (with_reducible refine Kd.C_alloc ?_ _) | (with_reducible refine Kd.C_drewN ?_ _) | (with_reducible refine Kd.C_drew ?_))); (case side2 => exact HC0.out); rintro e w' ⟨rfl, ⟨nd, rfl⟩⟩; (try first | exact ⟨rfl, _, World.drewN_drewN _ _ _⟩ | exact ⟨rfl, _, Eq.trans (World.drewN_drewN _ _ _) (congrArg (World.drewN _) (Nat.add_assoc _ _ _))⟩))))
   go_meet
   case rel => exact ⟨_, (true), (by first | rfl | (simp; done) | (simp [*]; done)), H', ⟨by first | omega | exact Nat.le_refl _⟩, ⟨by (with_reducible repeat (first | apply uU | apply uS | apply uT)); exact HO135.out⟩, ⟨pb HB⟩⟩
 case rest =>
  clear HC3
  try clear c1
  try clear c2
  try clear p2
  try clear c7
  obtain ⟨kq, x17_2, rfl, HA, HJ2, HO_5, HB⟩ := hcut
  cases kq with
  | zero => exact absurd HA.out (by simp [spec_Assign.j0])
  | succ kj2 =>
   have H := HA.out
   clear HA
   simp only [spec_Assign.j0] at H
   by_cases c10 : x17_2 = true
   ·subst c10
    have H1 : (some y133) = some r := by rw [if_pos rfl] at H; first | done | exact H
    clear H
    have H := H1
    clear H1
    obtain rfl := Option.some.inj H
    go_wp2
    repeat (go_quiet (fail); try go_wp2)
    go_ret
    exact ⟨_, by first | rfl | (simp [errW_none, errW_some] <;> rfl) | (simp [*, errW_none, errW_some] <;> rfl), by (with_reducible repeat (first | apply uU | apply uS | apply uT)); exact HO_5.out, pb HB⟩
   ·replace c10 := Bool.eq_false_iff.mpr c10
    subst c10
    have H1 : (spec_Assign.l0 kj2 l0 l1 y133 0) = some r := by rw [if_neg (show ¬ (false = true) by decide)] at H; first | done | exact H
    clear H
    have H := H1
    clear H1
    have H' := uD H
    clear H
    go_wp2
    repeat (go_quiet (fail); try go_wp2)
    go_loopg [5, 6] kj2 (fun kq v5 v6 w' => ∃ (x5_2 : List Int) (x6_2 : Int), v6 = .int .i64 x6_2 ∧ Aside0 (spec_Assign.l0 kq l0 l1 x5_2 x6_2 = some r) ∧ Aside0 (kq ≤ kj2) ∧ Aside0 (Kd.R (Kd.int .i64) 3 w' w.heap.size (fun _ => True) v5 x5_2) ∧ Aside0 (Below w.heap.size w w'))
    case atStart => exact ⟨(y133), (0), (by first | rfl | (simp; done) | (simp [*]; done)), H', ⟨Nat.le_refl _⟩, ⟨by (with_reducible repeat (first | apply uU | apply uS | apply uT)); exact HO_5.out⟩, ⟨pb HB⟩⟩
    case round =>
     clear H'
     try clear c1
     try clear c2
     try clear p2
     try clear c7
     try clear c10
     try clear p2
     obtain ⟨x5_2, x6_2, rfl, HA, HK2, HO_5, HB⟩ := hrel
     cases gk with
     | zero => exact absurd HA.out (by simp [spec_Assign.l0])
     | succ k2 =>
      have H := HA.out
      clear HA
      simp only [spec_Assign.l0] at H
      by_cases c11 : x6_2 < (l1.length : Int)
      ·rw [if_pos c11] at H
       have c11b0 : decide (x6_2 < (l1.length : Int)) = true := decide_eq_true c11
       clear c11
       have H' := uD H
       clear H
       go_wp2
       repeat (go_quiet (fail); try go_wp2)
       go_loopg [7, 8] k2 (fun kq v7 v8 w' => ∃ (x7_3 : Int) (x8_3 : Int), v7 = .int .i64 x7_3 ∧ v8 = .int .i64 x8_3 ∧ Aside0 (spec_Assign.l1 kq l0 l1 x5_2 x6_2 x7_3 x8_3 = some r) ∧ Aside0 (kq ≤ k2) ∧ Aside0 (Kd.R (Kd.int .i64) 3 w' w.heap.size (fun _ => True) u5 x5_2) ∧ Aside0 (Below w.heap.size w w'))
       case atStart => exact ⟨((-1)), (0), (by first | rfl | (simp; done) | (simp [*]; done)), (by first | rfl | (simp; done) | (simp [*]; done)), H', ⟨Nat.le_refl _⟩, ⟨by (with_reducible repeat (first | apply uU | apply uS | apply uT)); exact HO_5.out⟩, ⟨pb HB⟩⟩
       case round =>
        clear H'
        try clear c1
        try clear c2
        try clear p2
        try clear c7
        try clear c10
        try clear c11
        try clear c11b0
        try clear p2
        obtain ⟨x7_3, x8_3, rfl, rfl, HA, HK3, HO_5, HB⟩ := hrel
        cases gk with
        | zero => exact absurd HA.out (by simp [spec_Assign.l1])
        | succ k3 =>
         have H := HA.out
         clear HA
         simp only [spec_Assign.l1] at H
         have HC12 := uD H
         clear H
         go_upto_region 9 with (fail)
         repeat (go_quiet (fail); go_upto_region 9 with (fail))
         go_cut [36] (fun v36 wc => ∃ (kq : Nat) (x36_11 : Bool), v36 = .bool x36_11 ∧ Aside0 (spec_Assign.j3 kq l0 l1 x5_2 x6_2 x7_3 x8_3 x36_11 = some r) ∧ Aside0 (kq ≤ k3) ∧ Aside0 (Kd.R (Kd.int .i64) 3 wc w.heap.size (fun _ => True) u5 x5_2) ∧ Aside0 (Below w.heap.size w wc))
         case first =>
          have H := HC12.out
          clear HC12
          by_cases c13 : x8_3 < (l0.length : Int)
          ·rw [if_pos c13] at H
           have c13b0 : decide (x8_3 < (l0.length : Int)) = true := decide_eq_true c13
           clear c13
           (first | rw [c13b0] | (simp only [uZ, ua]; rw [c13b0]) | skip)
           by_cases c14 : 0 ≤ x6_2
           ·rw [if_pos c14] at H
            have c14b0 : decide (0 ≤ x6_2) = true := decide_eq_true c14
            clear c14
            by_cases c15 : x6_2 < (l1.length : Int)
            ·rw [if_pos c15] at H
             have c15b0 : decide (x6_2 < (l1.length : Int)) = true := decide_eq_true c15
             clear c15
             (try simp [c15b0] at c11b0)
             have H' := uD H
             clear H
             have p138 : 0 ≤ (x6_2 : Int) := of_decide_eq_true (by first | (with_reducible assumption) | assumption)
             have q138 : x6_2 < (l1.length : Int) := of_decide_eq_true (by first | (with_reducible assumption) | assumption)
             obtain ⟨ad138, e138, hx138_0, hx138_1⟩ := at_T49 HR1.out x6_2 p138 q138
             cases e138
             replace hx138_0 := (HB.out.cell (World.block_lt_of_cell? w _ hx138_0)).trans hx138_0
             replace hx138_1 := (HB.out.cell (World.block_lt_of_cell? w _ hx138_1)).trans hx138_1
             replace p138 := eq_true p138
             replace q138 := eq_true q138
             go_wp2
             repeat (go_quiet (fail); try go_wp2)
             go_meet
             case rel => exact ⟨_, ((((rd_T49 l1 x6_2).f1) == 0)), (by first | rfl | (simp; done) | (simp [*]; done)), H', ⟨by have := HJ2.out; have := HK2.out; have := HK3.out; first | omega | exact Nat.le_refl _⟩, ⟨by (with_reducible repeat (first | apply uU | apply uS | apply uT)); exact HO_5.out⟩, ⟨pb HB⟩⟩
            ·rw [if_neg c15] at H
             exact absurd H (by simp)
           ·rw [if_neg c14] at H
            exact absurd H (by simp)
          ·rw [if_neg c13] at H
           have c13b0 : decide (x8_3 < (l0.length : Int)) = false := decide_eq_false c13
           clear c13
           (first | rw [c13b0] | (simp only [uZ, ua]; rw [c13b0]) | skip)
           have H' := uD H
           clear H
           go_wp2
           repeat (go_quiet (fail); try go_wp2)
           go_meet
           case rel => exact ⟨_, (false), (by first | rfl | (simp; done) | (simp [*]; done)), H', ⟨by have := HJ2.out; have := HK2.out; have := HK3.out; first | omega | exact Nat.le_refl _⟩, ⟨by (with_reducible repeat (first | apply uU | apply uS | apply uT)); exact HO_5.out⟩, ⟨pb HB⟩⟩
         case rest =>
          clear HC12
          try clear c1
          try clear p1
          try clear q1
          try clear hx1
          try clear c2
          try clear p2
          try clear c7
          try clear c10
          try clear c11
          try clear c11b0
          try clear c13
          try clear c13b0
          try clear p13
          try clear q13
          try clear hx13
          try clear c14
          try clear c14b0
          try clear c15
          try clear c15b0
          try clear hx138_0
          try clear hx138_1
          try clear p138
          try clear p2
          try clear q138
          obtain ⟨kq, x36_11, rfl, HA, HJ11, HO_5, HB⟩ := hcut
          cases kq with
          | zero => exact absurd HA.out (by simp [spec_Assign.j3])
          | succ kj11 =>
           have H := HA.out
           clear HA
           simp only [spec_Assign.j3] at H
           by_cases c16 : x36_11 = true
           ·subst c16
            have H1 : ((spec_l03Fits.f kj11 l0 l1 x6_2 x8_3).bind fun t147 => (if t147 = true then (if 0 ≤ x8_3 then (if x8_3 < (l0.length : Int) then ((spec_l03Has.f kj11 x5_2 ((rd_T47 l0 x8_3).f0)).bind fun t149 => (spec_Assign.j4 kj11 l0 l1 x5_2 x6_2 x7_3 x8_3 t149)) else (none)) else (none)) else (spec_Assign.j4 kj11 l0 l1 x5_2 x6_2 x7_3 x8_3 true))) = some r := by rw [if_pos rfl] at H; first | done | exact H
            clear H
            have H := H1
            clear H1
            have HC17 := uD H
            clear H
            go_upto_region 11 with (fail)
            repeat (go_quiet (fail); go_upto_region 11 with (fail))
            go_cut [53] (fun v53 wc => ∃ (kq : Nat) (x53_16 : Bool), v53 = .bool x53_16 ∧ Aside0 (spec_Assign.j4 kq l0 l1 x5_2 x6_2 x7_3 x8_3 x53_16 = some r) ∧ Aside0 (kq ≤ kj11) ∧ Aside0 (Kd.R (Kd.int .i64) 3 wc w.heap.size (fun _ => True) u5 x5_2) ∧ Aside0 (Below w.heap.size w wc))
            case first =>
             have H := HC17.out
             clear HC17
             replace H := Option.bind_eq_some_iff.mp H
             obtain ⟨t147, A180, H⟩ := H
             replace H : (if t147 = true then (if 0 ≤ x8_3 then (if x8_3 < (l0.length : Int) then ((spec_l03Has.f kj11 x5_2 ((rd_T47 l0 x8_3).f0)).bind fun t149 => (spec_Assign.j4 kj11 l0 l1 x5_2 x6_2 x7_3 x8_3 t149)) else (none)) else (none)) else (spec_Assign.j4 kj11 l0 l1 x5_2 x6_2 x7_3 x8_3 true)) = some r := H
             have A18 := uD A180
             clear A180
             by_cases c19 : t147 = true
             ·subst c19
              have H1 : (if 0 ≤ x8_3 then (if x8_3 < (l0.length : Int) then ((spec_l03Has.f kj11 x5_2 ((rd_T47 l0 x8_3).f0)).bind fun t149 => (spec_Assign.j4 kj11 l0 l1 x5_2 x6_2 x7_3 x8_3 t149)) else (none)) else (none)) = some r := by rw [if_pos rfl] at H; first | done | exact H
              clear H
              have H := H1
              clear H1
              by_cases c20 : 0 ≤ x8_3
              ·rw [if_pos c20] at H
               have c20b0 : decide (0 ≤ x8_3) = true := decide_eq_true c20
               clear c20
               (first | rw [c20b0] | (simp only [uZ, ua]; rw [c20b0]) | skip)
               by_cases c21 : x8_3 < (l0.length : Int)
               ·rw [if_pos c21] at H
                have c21b0 : decide (x8_3 < (l0.length : Int)) = true := decide_eq_true c21
                clear c21
                replace H := Option.bind_eq_some_iff.mp H
                obtain ⟨t149, A220, H⟩ := H
                replace H : (spec_Assign.j4 kj11 l0 l1 x5_2 x6_2 x7_3 x8_3 t149) = some r := H
                have A22 := uD A220
                clear A220
                have H' := uD H
                clear H
                go_wp2_with (first | (go_at_call 62; (with_reducible refine (spec_l03Fits.calls kj11 _ _ l0 _ _ l1 x6_2 x8_3 true _ ?side1 ?side2 ?side3 ?side4 A18.out).mono ?_); (case side1 => repeat (first | exact (Kd.C_below HR0.out HB.out) | (with_reducible refine Kd.C_alloc ?_ _) | (with_reducible refine Kd.C_drewN ?_ _) | (with_reducible refine Kd.C_drew ?_))); (case side2 => exact HC0.out); (case side3 => repeat (first | exact (Kd.C_below HR1.out HB.out) | (with_reducible refine Kd.C_alloc ?_ _) | (with_reducible refine Kd.C_drewN ?_ _) | (with_reducible refine Kd.C_drew ?_))); (case side4 => exact HC1.out); rintro e w' ⟨rfl, ⟨nd, rfl⟩⟩; (try first | exact ⟨rfl, _, World.drewN_drewN _ _ _⟩ | exact ⟨rfl, _, Eq.trans (World.drewN_drewN _ _ _) (congrArg (World.drewN _) (Nat.add_assoc _ _ _))⟩); have p148 : 0 ≤ (x8_3 : Int) := of_decide_eq_true (by first | (with_reducible assumption) | assumption); have q148 : x8_3 < (l0.length : Int) := of_decide_eq_true (by first | (with_reducible assumption) | assumption); obtain ⟨ad148, e148, hx148_0, hx148_1, hx148_2⟩ := at_T47 HR0.out x8_3 p148 q148; cases e148; replace hx148_0 := (HB.out.cell (World.block_lt_of_cell? w _ hx148_0)).trans hx148_0; replace hx148_1 := (HB.out.cell (World.block_lt_of_cell? w _ hx148_1)).trans hx148_1; replace hx148_2 := (HB.out.cell (World.block_lt_of_cell? w _ hx148_2)).trans hx148_2; replace p148 := eq_true p148; replace q148 := eq_true q148; obtain ⟨Ao23, co23, eo23⟩ := Kd.R_slice HO_5.out; subst eo23) | (go_at_call 63; (with_reducible refine (spec_l03Has.calls kj11 _ _ x5_2 ((rd_T47 l0 x8_3).f0) t149 _ ?side1 ?side2 A22.out).mono ?_); (case side1 => repeat (first | exact (Kd.R_reads' HO_5.out).2.2 | (with_reducible refine Kd.C_alloc ?_ _) | (with_reducible refine Kd.C_drewN ?_ _) | (with_reducible refine Kd.C_drew ?_))); (case side2 => exact (Kd.R_reads' HO_5.out).2.1); rintro e w' ⟨rfl, ⟨nd, rfl⟩⟩; (try first | exact ⟨rfl, _, World.drewN_drewN _ _ _⟩ | exact ⟨rfl, _, Eq.trans (World.drewN_drewN _ _ _) (congrArg (World.drewN _) (Nat.add_assoc _ _ _))⟩)))
                repeat (go_quiet (first | (go_at_call 62; (with_reducible refine (spec_l03Fits.calls kj11 _ _ l0 _ _ l1 x6_2 x8_3 true _ ?side1 ?side2 ?side3 ?side4 A18.out).mono ?_); (case side1 => repeat (first | exact (Kd.C_below HR0.out HB.out) | (with_reducible refine Kd.C_alloc ?_ _) | (with_reducible refine Kd.C_drewN ?_ _) | (with_reducible refine Kd.C_drew ?_))); (case side2 => exact HC0.out); (case side3 => repeat (first | exact (Kd.C_below HR1.out HB.out) | (with_reducible refine Kd.C_alloc ?_ _) | (with_reducible refine Kd.C_drewN ?_ _) | (with_reducible refine Kd.C_drew ?_))); (case side4 => exact HC1.out); rintro e w' ⟨rfl, ⟨nd, rfl⟩⟩; (try first | exact ⟨rfl, _, World.drewN_drewN _ _ _⟩ | exact ⟨rfl, _, Eq.trans (World.drewN_drewN _ _ _) (congrArg (World.drewN _) (Nat.add_assoc _ _ _))⟩); have p148 : 0 ≤ (x8_3 : Int) := of_decide_eq_true (by first | (with_reducible assumption) | assumption); have q148 : x8_3 < (l0.length : Int) := of_decide_eq_true (by first | (with_reducible assumption) | assumption); obtain ⟨ad148, e148, hx148_0, hx148_1, hx148_2⟩ := at_T47 HR0.out x8_3 p148 q148; cases e148; replace hx148_0 := (HB.out.cell (World.block_lt_of_cell? w _ hx148_0)).trans hx148_0; replace hx148_1 := (HB.out.cell (World.block_lt_of_cell? w _ hx148_1)).trans hx148_1; replace hx148_2 := (HB.out.cell (World.block_lt_of_cell? w _ hx148_2)).trans hx148_2; replace p148 := eq_true p148; replace q148 := eq_true q148; obtain ⟨Ao23, co23, eo23⟩ := Kd.R_slice HO_5.out; subst eo23) | (go_at_call 63; (with_reducible refine (spec_l03Has.calls kj11 _ _ x5_2 ((rd_T47 l0 x8_3).f0) t149 _ ?side1 ?side2 A22.out).mono ?_); (case side1 => repeat (first | exact (Kd.R_reads' HO_5.out).2.2 | (with_reducible refine Kd.C_alloc ?_ _) | (with_reducible refine Kd.C_drewN ?_ _) | (with_reducible refine Kd.C_drew ?_))); (case side2 => exact (Kd.R_reads' HO_5.out).2.1); rintro e w' ⟨rfl, ⟨nd, rfl⟩⟩; (try first | exact ⟨rfl, _, World.drewN_drewN _ _ _⟩ | exact ⟨rfl, _, Eq.trans (World.drewN_drewN _ _ _) (congrArg (World.drewN _) (Nat.add_assoc _ _ _))⟩))); try go_wp2_with (first | (go_at_call 62; (with_reducible refine (spec_l03Fits.calls kj11 _ _ l0 _ _ l1 x6_2 x8_3 true _ ?side1 ?side2 ?side3 ?side4 A18.out).mono ?_); (case side1 => repeat (first | exact (Kd.C_below HR0.out HB.out) | (with_reducible refine Kd.C_alloc ?_ _) | (with_reducible refine Kd.C_drewN ?_ _) | (with_reducible refine Kd.C_drew ?_))); (case side2 => exact HC0.out); (case side3 => repeat (first | exact (Kd.C_below HR1.out HB.out) | (with_reducible refine Kd.C_alloc ?_ _) | (with_reducible refine Kd.C_drewN ?_ _) | (with_reducible refine Kd.C_drew ?_))); (case side4 => exact HC1.out); rintro e w' ⟨rfl, ⟨nd, rfl⟩⟩; (try first | exact ⟨rfl, _, World.drewN_drewN _ _ _⟩ | exact ⟨rfl, _, Eq.trans (World.drewN_drewN _ _ _) (congrArg (World.drewN _) (Nat.add_assoc _ _ _))⟩); have p148 : 0 ≤ (x8_3 : Int) := of_decide_eq_true (by first | (with_reducible assumption) | assumption); have q148 : x8_3 < (l0.length : Int) := of_decide_eq_true (by first | (with_reducible assumption) | assumption); obtain ⟨ad148, e148, hx148_0, hx148_1, hx148_2⟩ := at_T47 HR0.out x8_3 p148 q148; cases e148; replace hx148_0 := (HB.out.cell (World.block_lt_of_cell? w _ hx148_0)).trans hx148_0; replace hx148_1 := (HB.out.cell (World.block_lt_of_cell? w _ hx148_1)).trans hx148_1; replace hx148_2 := (HB.out.cell (World.block_lt_of_cell? w _ hx148_2)).trans hx148_2; replace p148 := eq_true p148; replace q148 := eq_true q148; obtain ⟨Ao23, co23, eo23⟩ := Kd.R_slice HO_5.out; subst eo23) | (go_at_call 63; (with_reducible refine (spec_l03Has.calls kj11 _ _ x5_2 ((rd_T47 l0 x8_3).f0) t149 _ ?side1 ?side2 A22.out).mono ?_); (case side1 => repeat (first | exact (Kd.R_reads' HO_5.out).2.2 | (with_reducible refine Kd.C_alloc ?_ _) | (with_reducible refine Kd.C_drewN ?_ _) | (with_reducible refine Kd.C_drew ?_))); (case side2 => exact (Kd.R_reads' HO_5.out).2.1); rintro e w' ⟨rfl, ⟨nd, rfl⟩⟩; (try first | exact ⟨rfl, _, World.drewN_drewN _ _ _⟩ | exact ⟨rfl, _, Eq.trans (World.drewN_drewN _ _ _) (congrArg (World.drewN _) (Nat.add_assoc _ _ _))⟩))))
                go_meet
                case rel => exact ⟨_, (t149), (by first | rfl | (simp; done) | (simp [*]; done)), H', ⟨by have := HJ2.out; have := HK2.out; have := HK3.out; have := HJ11.out; first | omega | exact Nat.le_refl _⟩, ⟨by (with_reducible repeat (first | apply uU | apply uS | apply uT)); exact HO_5.out⟩, ⟨pb HB⟩⟩
               ·rw [if_neg c21] at H
                exact absurd H (by simp)
              ·rw [if_neg c20] at H
               exact absurd H (by simp)
             ·replace c19 := Bool.eq_false_iff.mpr c19
              subst c19
              have H1 : (spec_Assign.j4 kj11 l0 l1 x5_2 x6_2 x7_3 x8_3 true) = some r := by rw [if_neg (show ¬ (false = true) by decide)] at H; first | done | exact H
              clear H
              have H := H1
              clear H1
              have H' := uD H
              clear H
              go_wp2_with (first | (go_at_call 62; (with_reducible refine (spec_l03Fits.calls kj11 _ _ l0 _ _ l1 x6_2 x8_3 false _ ?side1 ?side2 ?side3 ?side4 A18.out).mono ?_); (case side1 => repeat (first | exact (Kd.C_below HR0.out HB.out) | (with_reducible refine Kd.C_alloc ?_ _) | (with_reducible refine Kd.C_drewN ?_ _) | (with_reducible refine Kd.C_drew ?_))); (case side2 => exact HC0.out); (case side3 => repeat (first | exact (Kd.C_below HR1.out HB.out) | (with_reducible refine Kd.C_alloc ?_ _) | (with_reducible refine Kd.C_drewN ?_ _) | (with_reducible refine Kd.C_drew ?_))); (case side4 => exact HC1.out); rintro e w' ⟨rfl, ⟨nd, rfl⟩⟩; (try first | exact ⟨rfl, _, World.drewN_drewN _ _ _⟩ | exact ⟨rfl, _, Eq.trans (World.drewN_drewN _ _ _) (congrArg (World.drewN _) (Nat.add_assoc _ _ _))⟩)))
              repeat (go_quiet (first | (go_at_call 62; (with_reducible refine (spec_l03Fits.calls kj11 _ _ l0 _ _ l1 x6_2 x8_3 false _ ?side1 ?side2 ?side3 ?side4 A18.out).mono ?_); (case side1 => repeat (first | exact (Kd.C_below HR0.out HB.out) | (with_reducible refine Kd.C_alloc ?_ _) | (with_reducible refine Kd.C_drewN ?_ _) | (with_reducible refine Kd.C_drew ?_))); (case side2 => exact HC0.out); (case side3 => repeat (first | exact (Kd.C_below HR1.out HB.out) | (with_reducible refine Kd.C_alloc ?_ _) | (with_reducible refine Kd.C_drewN ?_ _) | (with_reducible refine Kd.C_drew ?_))); (case side4 => exact HC1.out); rintro e w' ⟨rfl, ⟨nd, rfl⟩⟩; (try first | exact ⟨rfl, _, World.drewN_drewN _ _ _⟩ | exact ⟨rfl, _, Eq.trans (World.drewN_drewN _ _ _) (congrArg (World.drewN _) (Nat.add_assoc _ _ _))⟩))); try go_wp2_with (first | (go_at_call 62; (with_reducible refine (spec_l03Fits.calls kj11 _ _ l0 _ _ l1 x6_2 x8_3 false _ ?side1 ?side2 ?side3 ?side4 A18.out).mono ?_); (case side1 => repeat (first | exact (Kd.C_below HR0.out HB.out) | (with_reducible refine Kd.C_alloc ?_ _) | (with_reducible refine Kd.C_drewN ?_ _) | (with_reducible refine Kd.C_drew ?_))); (case side2 => exact HC0.out); (case side3 => repeat (first | exact (Kd.C_below HR1.out HB.out) | (with_reducible refine Kd.C_alloc ?_ _) | (with_reducible refine Kd.C_drewN ?_ _) | (with_reducible refine Kd.C_drew ?_))); (case side4 => exact HC1.out); rintro e w' ⟨rfl, ⟨nd, rfl⟩⟩; (try first | exact ⟨rfl, _, World.drewN_drewN _ _ _⟩ | exact ⟨rfl, _, Eq.trans (World.drewN_drewN _ _ _) (congrArg (World.drewN _) (Nat.add_assoc _ _ _))⟩))))
              go_meet
              case rel => exact ⟨_, (true), (by first | rfl | (simp; done) | (simp [*]; done)), H', ⟨by have := HJ2.out; have := HK2.out; have := HK3.out; have := HJ11.out; first | omega | exact Nat.le_refl _⟩, ⟨by (with_reducible repeat (first | apply uU | apply uS | apply uT)); exact HO_5.out⟩, ⟨pb HB⟩⟩
            case rest =>
             clear HC17
             try clear c1
             try clear p1
             try clear q1
             try clear hx1
             try clear c2
             try clear p2
             try clear c7
             try clear c10
             try clear c11
             try clear c11b0
             try clear c13
             try clear c13b0
             try clear p13
             try clear q13
             try clear hx13
             try clear c14
             try clear c14b0
             try clear p14
             try clear q14
             try clear hx14
             try clear c15
             try clear c15b0
             try clear c16
             try clear c19
             try clear c20
             try clear c20b0
             try clear c21
             try clear c21b0
             try clear c23
             try clear hx138_0
             try clear hx138_1
             try clear hx148_0
             try clear hx148_1
             try clear hx148_2
             try clear p1
             try clear p13
             try clear p138
             try clear p148
             try clear p2
             try clear q1
             try clear q13
             try clear q138
             try clear q148
             obtain ⟨kq, x53_16, rfl, HA, HJ16, HO_5, HB⟩ := hcut
             cases kq with
             | zero => exact absurd HA.out (by simp [spec_Assign.j4])
             | succ kj16 =>
              have H := HA.out
              clear HA
              simp only [spec_Assign.j4] at H
              by_cases c24 : x53_16 = true
              ·subst c24
               have H1 : (spec_Assign.l1 kj16 l0 l1 x5_2 x6_2 x7_3 (wrap64 (x8_3 + 1))) = some r := by rw [if_pos rfl] at H; first | done | exact H
               clear H
               have H := H1
               clear H1
               have H' := uD H
               clear H
               go_wp2
               repeat (go_quiet (fail); try go_wp2)
               go_roundg kj16
               case measure => have := HJ2.out; have := HK2.out; have := HK3.out; have := HJ11.out; have := HJ16.out; omega
               case rel => exact ⟨(x7_3), (wrap64 (x8_3 + 1)), (by first | rfl | (simp; done) | (simp [*]; done)), (by first | rfl | (simp; done) | (simp [*]; done)), H', ⟨by have := HJ2.out; have := HK2.out; have := HK3.out; have := HJ11.out; have := HJ16.out; omega⟩, ⟨by (with_reducible repeat (first | apply uU | apply uS | apply uT)); exact HO_5.out⟩, ⟨pb HB⟩⟩
              ·replace c24 := Bool.eq_false_iff.mpr c24
               subst c24
               have H1 : (if x7_3 < 0 then (spec_Assign.l1 kj16 l0 l1 x5_2 x6_2 x8_3 (wrap64 (x8_3 + 1))) else (if 0 ≤ x8_3 then (if x8_3 < (l0.length : Int) then (if 0 ≤ x7_3 then (if x7_3 < (l0.length : Int) then (if ((rd_T47 l0 x8_3).f2) < ((rd_T47 l0 x7_3).f2) then (spec_Assign.l1 kj16 l0 l1 x5_2 x6_2 x8_3 (wrap64 (x8_3 + 1))) else (if ((rd_T47 l0 x8_3).f2) = ((rd_T47 l0 x7_3).f2) then (if ((rd_T47 l0 x8_3).f0) < ((rd_T47 l0 x7_3).f0) then (spec_Assign.l1 kj16 l0 l1 x5_2 x6_2 x8_3 (wrap64 (x8_3 + 1))) else (spec_Assign.l1 kj16 l0 l1 x5_2 x6_2 x7_3 (wrap64 (x8_3 + 1)))) else (spec_Assign.l1 kj16 l0 l1 x5_2 x6_2 x7_3 (wrap64 (x8_3 + 1))))) else (none)) else (none)) else (none)) else (none))) = some r := by rw [if_neg (show ¬ (false = true) by decide)] at H; first | done | exact H
               clear H
               have H := H1
               clear H1
               by_cases c25 : x7_3 < 0
               ·rw [if_pos c25] at H
                have c25b0 : decide (x7_3 < 0) = true := decide_eq_true c25
                clear c25
                have H' := uD H
                clear H
                go_wp2
                repeat (go_quiet (fail); try go_wp2)
                go_roundg kj16
                case measure => have := HJ2.out; have := HK2.out; have := HK3.out; have := HJ11.out; have := HJ16.out; omega
                case rel => exact ⟨(x8_3), (wrap64 (x8_3 + 1)), (by first | rfl | (simp; done) | (simp [*]; done)), (by first | rfl | (simp; done) | (simp [*]; done)), H', ⟨by have := HJ2.out; have := HK2.out; have := HK3.out; have := HJ11.out; have := HJ16.out; omega⟩, ⟨by (with_reducible repeat (first | apply uU | apply uS | apply uT)); exact HO_5.out⟩, ⟨pb HB⟩⟩
               ·rw [if_neg c25] at H
                have c25b0 : decide (x7_3 < 0) = false := decide_eq_false c25
                clear c25
                by_cases c26 : 0 ≤ x8_3
                ·rw [if_pos c26] at H
                 have c26b0 : decide (0 ≤ x8_3) = true := decide_eq_true c26
                 clear c26
                 by_cases c27 : x8_3 < (l0.length : Int)
                 ·rw [if_pos c27] at H
                  have c27b0 : decide (x8_3 < (l0.length : Int)) = true := decide_eq_true c27
                  clear c27
                  by_cases c28 : 0 ≤ x7_3
                  ·rw [if_pos c28] at H
                   have c28b0 : decide (0 ≤ x7_3) = true := decide_eq_true c28
                   clear c28
                   by_cases c29 : x7_3 < (l0.length : Int)
                   ·rw [if_pos c29] at H
                    have c29b0 : decide (x7_3 < (l0.length : Int)) = true := decide_eq_true c29
                    clear c29
                    by_cases c30 : ((rd_T47 l0 x8_3).f2) < ((rd_T47 l0 x7_3).f2)
                    ·rw [if_pos c30] at H
                     have c30b0 : decide (((rd_T47 l0 x8_3).f2) < ((rd_T47 l0 x7_3).f2)) = true := decide_eq_true c30
                     clear c30
                     have H' := uD H
                     clear H
                     have p150 : 0 ≤ (x8_3 : Int) := of_decide_eq_true (by first | (with_reducible assumption) | assumption)
                     have q150 : x8_3 < (l0.length : Int) := of_decide_eq_true (by first | (with_reducible assumption) | assumption)
                     obtain ⟨ad150, e150, hx150_0, hx150_1, hx150_2⟩ := at_T47 HR0.out x8_3 p150 q150
                     cases e150
                     replace hx150_0 := (HB.out.cell (World.block_lt_of_cell? w _ hx150_0)).trans hx150_0
                     replace hx150_1 := (HB.out.cell (World.block_lt_of_cell? w _ hx150_1)).trans hx150_1
                     replace hx150_2 := (HB.out.cell (World.block_lt_of_cell? w _ hx150_2)).trans hx150_2
                     replace p150 := eq_true p150
                     replace q150 := eq_true q150
                     have p151 : 0 ≤ (x7_3 : Int) := of_decide_eq_true (by first | (with_reducible assumption) | assumption)
                     have q151 : x7_3 < (l0.length : Int) := of_decide_eq_true (by first | (with_reducible assumption) | assumption)
                     obtain ⟨ad151, e151, hx151_0, hx151_1, hx151_2⟩ := at_T47 HR0.out x7_3 p151 q151
                     obtain rfl : ad150 = ad151 := (by injection e151)
                     replace hx151_0 := (HB.out.cell (World.block_lt_of_cell? w _ hx151_0)).trans hx151_0
                     replace hx151_1 := (HB.out.cell (World.block_lt_of_cell? w _ hx151_1)).trans hx151_1
                     replace hx151_2 := (HB.out.cell (World.block_lt_of_cell? w _ hx151_2)).trans hx151_2
                     replace p151 := eq_true p151
                     replace q151 := eq_true q151
                     go_wp2
                     repeat (go_quiet (fail); try go_wp2)
                     go_roundg kj16
                     case measure => have := HJ2.out; have := HK2.out; have := HK3.out; have := HJ11.out; have := HJ16.out; omega
                     case rel => exact ⟨(x8_3), (wrap64 (x8_3 + 1)), (by first | rfl | (simp; done) | (simp [*]; done)), (by first | rfl | (simp; done) | (simp [*]; done)), H', ⟨by have := HJ2.out; have := HK2.out; have := HK3.out; have := HJ11.out; have := HJ16.out; omega⟩, ⟨by (with_reducible repeat (first | apply uU | apply uS | apply uT)); exact HO_5.out⟩, ⟨pb HB⟩⟩
                    ·rw [if_neg c30] at H
                     have c30b0 : decide (((rd_T47 l0 x8_3).f2) < ((rd_T47 l0 x7_3).f2)) = false := decide_eq_false c30
                     clear c30
                     by_cases c31 : ((rd_T47 l0 x8_3).f2) = ((rd_T47 l0 x7_3).f2)
                     ·rw [if_pos c31] at H
                      have c31b0 : (((rd_T47 l0 x8_3).f2) == ((rd_T47 l0 x7_3).f2)) = true := beq_iff_eq.mpr c31
                      have c31b1 : (((rd_T47 l0 x8_3).f2) != ((rd_T47 l0 x7_3).f2)) = false := bne_eq_false_iff_eq.mpr c31
                      clear c31
                      by_cases c32 : ((rd_T47 l0 x8_3).f0) < ((rd_T47 l0 x7_3).f0)
                      ·rw [if_pos c32] at H
                       have c32b0 : decide (((rd_T47 l0 x8_3).f0) < ((rd_T47 l0 x7_3).f0)) = true := decide_eq_true c32
                       clear c32
                       have H' := uD H
                       clear H
                       have p150 : 0 ≤ (x8_3 : Int) := of_decide_eq_true (by first | (with_reducible assumption) | assumption)
                       have q150 : x8_3 < (l0.length : Int) := of_decide_eq_true (by first | (with_reducible assumption) | assumption)
                       obtain ⟨ad150, e150, hx150_0, hx150_1, hx150_2⟩ := at_T47 HR0.out x8_3 p150 q150
                       cases e150
                       replace hx150_0 := (HB.out.cell (World.block_lt_of_cell? w _ hx150_0)).trans hx150_0
                       replace hx150_1 := (HB.out.cell (World.block_lt_of_cell? w _ hx150_1)).trans hx150_1
                       replace hx150_2 := (HB.out.cell (World.block_lt_of_cell? w _ hx150_2)).trans hx150_2
                       replace p150 := eq_true p150
                       replace q150 := eq_true q150
                       have p151 : 0 ≤ (x7_3 : Int) := of_decide_eq_true (by first | (with_reducible assumption) | assumption)
                       have q151 : x7_3 < (l0.length : Int) := of_decide_eq_true (by first | (with_reducible assumption) | assumption)
                       obtain ⟨ad151, e151, hx151_0, hx151_1, hx151_2⟩ := at_T47 HR0.out x7_3 p151 q151
                       obtain rfl : ad150 = ad151 := (by injection e151)
                       replace hx151_0 := (HB.out.cell (World.block_lt_of_cell? w _ hx151_0)).trans hx151_0
                       replace hx151_1 := (HB.out.cell (World.block_lt_of_cell? w _ hx151_1)).trans hx151_1
                       replace hx151_2 := (HB.out.cell (World.block_lt_of_cell? w _ hx151_2)).trans hx151_2
                       replace p151 := eq_true p151
                       replace q151 := eq_true q151
                       have p152 : 0 ≤ (x8_3 : Int) := of_decide_eq_true (by first | (with_reducible assumption) | assumption)
                       have q152 : x8_3 < (l0.length : Int) := of_decide_eq_true (by first | (with_reducible assumption) | assumption)
                       obtain ⟨ad152, e152, hx152_0, hx152_1, hx152_2⟩ := at_T47 HR0.out x8_3 p152 q152
                       obtain rfl : ad150 = ad152 := (by injection e152)
                       replace hx152_0 := (HB.out.cell (World.block_lt_of_cell? w _ hx152_0)).trans hx152_0
                       replace hx152_1 := (HB.out.cell (World.block_lt_of_cell? w _ hx152_1)).trans hx152_1
                       replace hx152_2 := (HB.out.cell (World.block_lt_of_cell? w _ hx152_2)).trans hx152_2
                       replace p152 := eq_true p152
                       replace q152 := eq_true q152
                       have p153 : 0 ≤ (x7_3 : Int) := of_decide_eq_true (by first | (with_reducible assumption) | assumption)
                       have q153 : x7_3 < (l0.length : Int) := of_decide_eq_true (by first | (with_reducible assumption) | assumption)
                       obtain ⟨ad153, e153, hx153_0, hx153_1, hx153_2⟩ := at_T47 HR0.out x7_3 p153 q153
                       obtain rfl : ad150 = ad153 := (by injection e153)
                       replace hx153_0 := (HB.out.cell (World.block_lt_of_cell? w _ hx153_0)).trans hx153_0
                       replace hx153_1 := (HB.out.cell (World.block_lt_of_cell? w _ hx153_1)).trans hx153_1
                       replace hx153_2 := (HB.out.cell (World.block_lt_of_cell? w _ hx153_2)).trans hx153_2
                       replace p153 := eq_true p153
                       replace q153 := eq_true q153
                       have p154 : 0 ≤ (x8_3 : Int) := of_decide_eq_true (by first | (with_reducible assumption) | assumption)
                       have q154 : x8_3 < (l0.length : Int) := of_decide_eq_true (by first | (with_reducible assumption) | assumption)
                       obtain ⟨ad154, e154, hx154_0, hx154_1, hx154_2⟩ := at_T47 HR0.out x8_3 p154 q154
                       obtain rfl : ad150 = ad154 := (by injection e154)
                       replace hx154_0 := (HB.out.cell (World.block_lt_of_cell? w _ hx154_0)).trans hx154_0
                       replace hx154_1 := (HB.out.cell (World.block_lt_of_cell? w _ hx154_1)).trans hx154_1
                       replace hx154_2 := (HB.out.cell (World.block_lt_of_cell? w _ hx154_2)).trans hx154_2
                       replace p154 := eq_true p154
                       replace q154 := eq_true q154
                       have p155 : 0 ≤ (x7_3 : Int) := of_decide_eq_true (by first | (with_reducible assumption) | assumption)
                       have q155 : x7_3 < (l0.length : Int) := of_decide_eq_true (by first | (with_reducible assumption) | assumption)
                       obtain ⟨ad155, e155, hx155_0, hx155_1, hx155_2⟩ := at_T47 HR0.out x7_3 p155 q155
                       obtain rfl : ad150 = ad155 := (by injection e155)
                       replace hx155_0 := (HB.out.cell (World.block_lt_of_cell? w _ hx155_0)).trans hx155_0
                       replace hx155_1 := (HB.out.cell (World.block_lt_of_cell? w _ hx155_1)).trans hx155_1
                       replace hx155_2 := (HB.out.cell (World.block_lt_of_cell? w _ hx155_2)).trans hx155_2
                       replace p155 := eq_true p155
                       replace q155 := eq_true q155
                       go_wp2
                       repeat (go_quiet (fail); try go_wp2)
                       go_roundg kj16
                       case measure => have := HJ2.out; have := HK2.out; have := HK3.out; have := HJ11.out; have := HJ16.out; omega
                       case rel => exact ⟨(x8_3), (wrap64 (x8_3 + 1)), (by first | rfl | (simp; done) | (simp [*]; done)), (by first | rfl | (simp; done) | (simp [*]; done)), H', ⟨by have := HJ2.out; have := HK2.out; have := HK3.out; have := HJ11.out; have := HJ16.out; omega⟩, ⟨by (with_reducible repeat (first | apply uU | apply uS | apply uT)); exact HO_5.out⟩, ⟨pb HB⟩⟩
                      ·rw [if_neg c32] at H
                       have c32b0 : decide (((rd_T47 l0 x8_3).f0) < ((rd_T47 l0 x7_3).f0)) = false := decide_eq_false c32
                       clear c32
                       have H' := uD H
                       clear H
                       have p150 : 0 ≤ (x8_3 : Int) := of_decide_eq_true (by first | (with_reducible assumption) | assumption)
                       have q150 : x8_3 < (l0.length : Int) := of_decide_eq_true (by first | (with_reducible assumption) | assumption)
                       obtain ⟨ad150, e150, hx150_0, hx150_1, hx150_2⟩ := at_T47 HR0.out x8_3 p150 q150
                       cases e150
                       replace hx150_0 := (HB.out.cell (World.block_lt_of_cell? w _ hx150_0)).trans hx150_0
                       replace hx150_1 := (HB.out.cell (World.block_lt_of_cell? w _ hx150_1)).trans hx150_1
                       replace hx150_2 := (HB.out.cell (World.block_lt_of_cell? w _ hx150_2)).trans hx150_2
                       replace p150 := eq_true p150
                       replace q150 := eq_true q150
                       have p151 : 0 ≤ (x7_3 : Int) := of_decide_eq_true (by first | (with_reducible assumption) | assumption)
                       have q151 : x7_3 < (l0.length : Int) := of_decide_eq_true (by first | (with_reducible assumption) | assumption)
                       obtain ⟨ad151, e151, hx151_0, hx151_1, hx151_2⟩ := at_T47 HR0.out x7_3 p151 q151
                       obtain rfl : ad150 = ad151 := (by injection e151)
                       replace hx151_0 := (HB.out.cell (World.block_lt_of_cell? w _ hx151_0)).trans hx151_0
                       replace hx151_1 := (HB.out.cell (World.block_lt_of_cell? w _ hx151_1)).trans hx151_1
                       replace hx151_2 := (HB.out.cell (World.block_lt_of_cell? w _ hx151_2)).trans hx151_2
                       replace p151 := eq_true p151
                       replace q151 := eq_true q151
                       have p152 : 0 ≤ (x8_3 : Int) := of_decide_eq_true (by first | (with_reducible assumption) | assumption)
                       have q152 : x8_3 < (l0.length : Int) := of_decide_eq_true (by first | (with_reducible assumption) | assumption)
                       obtain ⟨ad152, e152, hx152_0, hx152_1, hx152_2⟩ := at_T47 HR0.out x8_3 p152 q152
                       obtain rfl : ad150 = ad152 := (by injection e152)
                       replace hx152_0 := (HB.out.cell (World.block_lt_of_cell? w _ hx152_0)).trans hx152_0
                       replace hx152_1 := (HB.out.cell (World.block_lt_of_cell? w _ hx152_1)).trans hx152_1
                       replace hx152_2 := (HB.out.cell (World.block_lt_of_cell? w _ hx152_2)).trans hx152_2
                       replace p152 := eq_true p152
                       replace q152 := eq_true q152
                       have p153 : 0 ≤ (x7_3 : Int) := of_decide_eq_true (by first | (with_reducible assumption) | assumption)
                       have q153 : x7_3 < (l0.length : Int) := of_decide_eq_true (by first | (with_reducible assumption) | assumption)
                       obtain ⟨ad153, e153, hx153_0, hx153_1, hx153_2⟩ := at_T47 HR0.out x7_3 p153 q153
                       obtain rfl : ad150 = ad153 := (by injection e153)
                       replace hx153_0 := (HB.out.cell (World.block_lt_of_cell? w _ hx153_0)).trans hx153_0
                       replace hx153_1 := (HB.out.cell (World.block_lt_of_cell? w _ hx153_1)).trans hx153_1
                       replace hx153_2 := (HB.out.cell (World.block_lt_of_cell? w _ hx153_2)).trans hx153_2
                       replace p153 := eq_true p153
                       replace q153 := eq_true q153
                       have p154 : 0 ≤ (x8_3 : Int) := of_decide_eq_true (by first | (with_reducible assumption) | assumption)
                       have q154 : x8_3 < (l0.length : Int) := of_decide_eq_true (by first | (with_reducible assumption) | assumption)
                       obtain ⟨ad154, e154, hx154_0, hx154_1, hx154_2⟩ := at_T47 HR0.out x8_3 p154 q154
                       obtain rfl : ad150 = ad154 := (by injection e154)
                       replace hx154_0 := (HB.out.cell (World.block_lt_of_cell? w _ hx154_0)).trans hx154_0
                       replace hx154_1 := (HB.out.cell (World.block_lt_of_cell? w _ hx154_1)).trans hx154_1
                       replace hx154_2 := (HB.out.cell (World.block_lt_of_cell? w _ hx154_2)).trans hx154_2
                       replace p154 := eq_true p154
                       replace q154 := eq_true q154
                       have p155 : 0 ≤ (x7_3 : Int) := of_decide_eq_true (by first | (with_reducible assumption) | assumption)
                       have q155 : x7_3 < (l0.length : Int) := of_decide_eq_true (by first | (with_reducible assumption) | assumption)
                       obtain ⟨ad155, e155, hx155_0, hx155_1, hx155_2⟩ := at_T47 HR0.out x7_3 p155 q155
                       obtain rfl : ad150 = ad155 := (by injection e155)
                       replace hx155_0 := (HB.out.cell (World.block_lt_of_cell? w _ hx155_0)).trans hx155_0
                       replace hx155_1 := (HB.out.cell (World.block_lt_of_cell? w _ hx155_1)).trans hx155_1
                       replace hx155_2 := (HB.out.cell (World.block_lt_of_cell? w _ hx155_2)).trans hx155_2
                       replace p155 := eq_true p155
                       replace q155 := eq_true q155
                       go_wp2
                       repeat (go_quiet (fail); try go_wp2)
                       go_roundg kj16
                       case measure => have := HJ2.out; have := HK2.out; have := HK3.out; have := HJ11.out; have := HJ16.out; omega
                       case rel => exact ⟨(x7_3), (wrap64 (x8_3 + 1)), (by first | rfl | (simp; done) | (simp [*]; done)), (by first | rfl | (simp; done) | (simp [*]; done)), H', ⟨by have := HJ2.out; have := HK2.out; have := HK3.out; have := HJ11.out; have := HJ16.out; omega⟩, ⟨by (with_reducible repeat (first | apply uU | apply uS | apply uT)); exact HO_5.out⟩, ⟨pb HB⟩⟩
                     ·rw [if_neg c31] at H
                      have c31b0 : (((rd_T47 l0 x8_3).f2) == ((rd_T47 l0 x7_3).f2)) = false := beq_eq_false_iff_ne.mpr c31
                      have c31b1 : (((rd_T47 l0 x8_3).f2) != ((rd_T47 l0 x7_3).f2)) = true := bne_iff_ne.mpr c31
                      have H' := uD H
                      clear H
                      have p150 : 0 ≤ (x8_3 : Int) := of_decide_eq_true (by first | (with_reducible assumption) | assumption)
                      have q150 : x8_3 < (l0.length : Int) := of_decide_eq_true (by first | (with_reducible assumption) | assumption)
                      obtain ⟨ad150, e150, hx150_0, hx150_1, hx150_2⟩ := at_T47 HR0.out x8_3 p150 q150
                      cases e150
                      replace hx150_0 := (HB.out.cell (World.block_lt_of_cell? w _ hx150_0)).trans hx150_0
                      replace hx150_1 := (HB.out.cell (World.block_lt_of_cell? w _ hx150_1)).trans hx150_1
                      replace hx150_2 := (HB.out.cell (World.block_lt_of_cell? w _ hx150_2)).trans hx150_2
                      replace p150 := eq_true p150
                      replace q150 := eq_true q150
                      have p151 : 0 ≤ (x7_3 : Int) := of_decide_eq_true (by first | (with_reducible assumption) | assumption)
                      have q151 : x7_3 < (l0.length : Int) := of_decide_eq_true (by first | (with_reducible assumption) | assumption)
                      obtain ⟨ad151, e151, hx151_0, hx151_1, hx151_2⟩ := at_T47 HR0.out x7_3 p151 q151
                      obtain rfl : ad150 = ad151 := (by injection e151)
                      replace hx151_0 := (HB.out.cell (World.block_lt_of_cell? w _ hx151_0)).trans hx151_0
                      replace hx151_1 := (HB.out.cell (World.block_lt_of_cell? w _ hx151_1)).trans hx151_1
                      replace hx151_2 := (HB.out.cell (World.block_lt_of_cell? w _ hx151_2)).trans hx151_2
                      replace p151 := eq_true p151
                      replace q151 := eq_true q151
                      have p152 : 0 ≤ (x8_3 : Int) := of_decide_eq_true (by first | (with_reducible assumption) | assumption)
                      have q152 : x8_3 < (l0.length : Int) := of_decide_eq_true (by first | (with_reducible assumption) | assumption)
                      obtain ⟨ad152, e152, hx152_0, hx152_1, hx152_2⟩ := at_T47 HR0.out x8_3 p152 q152
                      obtain rfl : ad150 = ad152 := (by injection e152)
                      replace hx152_0 := (HB.out.cell (World.block_lt_of_cell? w _ hx152_0)).trans hx152_0
                      replace hx152_1 := (HB.out.cell (World.block_lt_of_cell? w _ hx152_1)).trans hx152_1
                      replace hx152_2 := (HB.out.cell (World.block_lt_of_cell? w _ hx152_2)).trans hx152_2
                      replace p152 := eq_true p152
                      replace q152 := eq_true q152
                      have p153 : 0 ≤ (x7_3 : Int) := of_decide_eq_true (by first | (with_reducible assumption) | assumption)
                      have q153 : x7_3 < (l0.length : Int) := of_decide_eq_true (by first | (with_reducible assumption) | assumption)
                      obtain ⟨ad153, e153, hx153_0, hx153_1, hx153_2⟩ := at_T47 HR0.out x7_3 p153 q153
                      obtain rfl : ad150 = ad153 := (by injection e153)
                      replace hx153_0 := (HB.out.cell (World.block_lt_of_cell? w _ hx153_0)).trans hx153_0
                      replace hx153_1 := (HB.out.cell (World.block_lt_of_cell? w _ hx153_1)).trans hx153_1
                      replace hx153_2 := (HB.out.cell (World.block_lt_of_cell? w _ hx153_2)).trans hx153_2
                      replace p153 := eq_true p153
                      replace q153 := eq_true q153
                      go_wp2
                      repeat (go_quiet (fail); try go_wp2)
                      go_roundg kj16
                      case measure => have := HJ2.out; have := HK2.out; have := HK3.out; have := HJ11.out; have := HJ16.out; omega
                      case rel => exact ⟨(x7_3), (wrap64 (x8_3 + 1)), (by first | rfl | (simp; done) | (simp [*]; done)), (by first | rfl | (simp; done) | (simp [*]; done)), H', ⟨by have := HJ2.out; have := HK2.out; have := HK3.out; have := HJ11.out; have := HJ16.out; omega⟩, ⟨by (with_reducible repeat (first | apply uU | apply uS | apply uT)); exact HO_5.out⟩, ⟨pb HB⟩⟩
                   ·rw [if_neg c29] at H
                    exact absurd H (by simp)
                  ·rw [if_neg c28] at H
                   exact absurd H (by simp)
                 ·rw [if_neg c27] at H
                  exact absurd H (by simp)
                ·rw [if_neg c26] at H
                 exact absurd H (by simp)
           ·replace c16 := Bool.eq_false_iff.mpr c16
            subst c16
            have H1 : (if x7_3 ≥ 0 then (if 0 ≤ x7_3 then (if x7_3 < (l0.length : Int) then (if x5_2.length < 17592186044416 then (spec_Assign.l0 kj11 l0 l1 (x5_2 ++ [(rd_T47 l0 x7_3).f0]) (wrap64 (x6_2 + 1))) else (none)) else (none)) else (none)) else (if 0 ≤ x6_2 then (if x6_2 < (l1.length : Int) then (if x5_2.length < 17592186044416 then (spec_Assign.l0 kj11 l0 l1 (x5_2 ++ [(rd_T49 l1 x6_2).f1]) (wrap64 (x6_2 + 1))) else (none)) else (none)) else (none))) = some r := by rw [if_neg (show ¬ (false = true) by decide)] at H; first | done | exact H
            clear H
            have H := H1
            clear H1
            by_cases c33 : x7_3 ≥ 0
            ·rw [if_pos c33] at H
             have c33b0 : decide (0 ≤ x7_3) = true := decide_eq_true c33
             clear c33
             by_cases c34 : 0 ≤ x7_3
             ·rw [if_pos c34] at H
              have c34b0 : decide (0 ≤ x7_3) = true := decide_eq_true c34
              clear c34
              (try simp [c34b0] at c33b0)
              by_cases c35 : x7_3 < (l0.length : Int)
              ·rw [if_pos c35] at H
               have c35b0 : decide (x7_3 < (l0.length : Int)) = true := decide_eq_true c35
               clear c35
               by_cases c36 : x5_2.length < 17592186044416
               ·rw [if_pos c36] at H
                have LMc36 := uD c36
                clear c36
                obtain ⟨y140, hy140⟩ : ∃ y_ : List Int, y_ = (x5_2 ++ [(rd_T47 l0 x7_3).f0]) := ⟨_, rfl⟩
                replace H : (spec_Assign.l0 kj11 l0 l1 y140 (wrap64 (x6_2 + 1))) = some r := by first | (rw [hy140]; with_reducible exact H) | (have H2_ := (Option.bind_some _ _).symm.trans H; rw [hy140]; with_reducible exact H2_) | (have H2_ := (Option.bind_some _ _).symm.trans H; with_reducible exact H2_) | with_reducible exact H | (rw [hy140]; exact H) | exact H
                have Ny140 := uD hy140
                clear hy140
                have H' := uD H
                clear H
                have p139 : 0 ≤ (x7_3 : Int) := of_decide_eq_true (by first | (with_reducible assumption) | assumption)
                have q139 : x7_3 < (l0.length : Int) := of_decide_eq_true (by first | (with_reducible assumption) | assumption)
                obtain ⟨ad139, e139, hx139_0, hx139_1, hx139_2⟩ := at_T47 HR0.out x7_3 p139 q139
                cases e139
                replace hx139_0 := (HB.out.cell (World.block_lt_of_cell? w _ hx139_0)).trans hx139_0
                replace hx139_1 := (HB.out.cell (World.block_lt_of_cell? w _ hx139_1)).trans hx139_1
                replace hx139_2 := (HB.out.cell (World.block_lt_of_cell? w _ hx139_2)).trans hx139_2
                replace p139 := eq_true p139
                replace q139 := eq_true q139
                go_wp2_with (first | ((with_reducible refine gate_builtin (b := .append) (xs := #[.tmp 98, .tmp 104]) rfl ?_); at_builtin; refine Kd.R_append (Kd.int .i64) (w0 := w) w.heap.size rfl (.tmp 98) (.tmp 104) 36 3 (.int .i64 0) 8 rfl Try.underlying36 info3 rfl (by decide) (by omega) u5 x5_2 ((rd_T47 l0 x7_3).f0) [.int .i64 ((rd_T47 l0 x7_3).f0)] (fun _ => True) (fun _ => False) rfl rfl ?aP (fun _ hk => hk.elim) ?aF ?aO ?aB ?aS ?aL ?_; (case aP => exact rfl); (case aB => exact (pb HB)); (case aF => exact (fun _ _ => trivial)); (case aO => exact (pr HO_5)); (case aS => exact (uN (pb HB))); (case aL => have := LMc36.out; omega); intro v141 w37 ho hb hg hat; rw [← Ny140.out] at ho; replace HB := uD (hb); have HO142 := uD (ho); clear HO_5; clear ho hb hg hat))
                repeat (go_quiet (first | ((with_reducible refine gate_builtin (b := .append) (xs := #[.tmp 98, .tmp 104]) rfl ?_); at_builtin; refine Kd.R_append (Kd.int .i64) (w0 := w) w.heap.size rfl (.tmp 98) (.tmp 104) 36 3 (.int .i64 0) 8 rfl Try.underlying36 info3 rfl (by decide) (by omega) u5 x5_2 ((rd_T47 l0 x7_3).f0) [.int .i64 ((rd_T47 l0 x7_3).f0)] (fun _ => True) (fun _ => False) rfl rfl ?aP (fun _ hk => hk.elim) ?aF ?aO ?aB ?aS ?aL ?_; (case aP => exact rfl); (case aB => exact (pb HB)); (case aF => exact (fun _ _ => trivial)); (case aO => exact (pr HO_5)); (case aS => exact (uN (pb HB))); (case aL => have := LMc36.out; omega); intro v141 w37 ho hb hg hat; rw [← Ny140.out] at ho; replace HB := uD (hb); have HO142 := uD (ho); clear HO_5; clear ho hb hg hat)); try go_wp2_with (first | ((with_reducible refine gate_builtin (b := .append) (xs := #[.tmp 98, .tmp 104]) rfl ?_); at_builtin; refine Kd.R_append (Kd.int .i64) (w0 := w) w.heap.size rfl (.tmp 98) (.tmp 104) 36 3 (.int .i64 0) 8 rfl Try.underlying36 info3 rfl (by decide) (by omega) u5 x5_2 ((rd_T47 l0 x7_3).f0) [.int .i64 ((rd_T47 l0 x7_3).f0)] (fun _ => True) (fun _ => False) rfl rfl ?aP (fun _ hk => hk.elim) ?aF ?aO ?aB ?aS ?aL ?_; (case aP => exact rfl); (case aB => exact (pb HB)); (case aF => exact (fun _ _ => trivial)); (case aO => exact (pr HO_5)); (case aS => exact (uN (pb HB))); (case aL => have := LMc36.out; omega); intro v141 w37 ho hb hg hat; rw [← Ny140.out] at ho; replace HB := uD (hb); have HO142 := uD (ho); clear HO_5; clear ho hb hg hat)))
                go_roundg kj11
                case measure => have := HJ2.out; have := HK2.out; have := HK3.out; have := HJ11.out; omega
                case rel => exact ⟨(y140), (wrap64 (x6_2 + 1)), (by first | rfl | (simp; done) | (simp [*]; done)), H', ⟨by have := HJ2.out; have := HK2.out; have := HK3.out; have := HJ11.out; omega⟩, ⟨by (with_reducible repeat (first | apply uU | apply uS | apply uT)); exact HO142.out⟩, ⟨pb HB⟩⟩
               ·rw [if_neg c36] at H
                exact absurd H (by simp)
              ·rw [if_neg c35] at H
               exact absurd H (by simp)
             ·rw [if_neg c34] at H
              exact absurd H (by simp)
            ·rw [if_neg c33] at H
             have c33b0 : decide (0 ≤ x7_3) = false := decide_eq_false c33
             clear c33
             by_cases c38 : 0 ≤ x6_2
             ·rw [if_pos c38] at H
              have c38b0 : decide (0 ≤ x6_2) = true := decide_eq_true c38
              clear c38
              by_cases c39 : x6_2 < (l1.length : Int)
              ·rw [if_pos c39] at H
               have c39b0 : decide (x6_2 < (l1.length : Int)) = true := decide_eq_true c39
               clear c39
               (try simp [c39b0] at c11b0)
               by_cases c40 : x5_2.length < 17592186044416
               ·rw [if_pos c40] at H
                have LMc40 := uD c40
                clear c40
                obtain ⟨y144, hy144⟩ : ∃ y_ : List Int, y_ = (x5_2 ++ [(rd_T49 l1 x6_2).f1]) := ⟨_, rfl⟩
                replace H : (spec_Assign.l0 kj11 l0 l1 y144 (wrap64 (x6_2 + 1))) = some r := by first | (rw [hy144]; with_reducible exact H) | (have H2_ := (Option.bind_some _ _).symm.trans H; rw [hy144]; with_reducible exact H2_) | (have H2_ := (Option.bind_some _ _).symm.trans H; with_reducible exact H2_) | with_reducible exact H | (rw [hy144]; exact H) | exact H
                have Ny144 := uD hy144
                clear hy144
                have H' := uD H
                clear H
                have p143 : 0 ≤ (x6_2 : Int) := of_decide_eq_true (by first | (with_reducible assumption) | assumption)
                have q143 : x6_2 < (l1.length : Int) := of_decide_eq_true (by first | (with_reducible assumption) | assumption)
                obtain ⟨ad143, e143, hx143_0, hx143_1⟩ := at_T49 HR1.out x6_2 p143 q143
                cases e143
                replace hx143_0 := (HB.out.cell (World.block_lt_of_cell? w _ hx143_0)).trans hx143_0
                replace hx143_1 := (HB.out.cell (World.block_lt_of_cell? w _ hx143_1)).trans hx143_1
                replace p143 := eq_true p143
                replace q143 := eq_true q143
                go_wp2_with (first | ((with_reducible refine gate_builtin (b := .append) (xs := #[.tmp 106, .tmp 112]) rfl ?_); at_builtin; refine Kd.R_append (Kd.int .i64) (w0 := w) w.heap.size rfl (.tmp 106) (.tmp 112) 36 3 (.int .i64 0) 8 rfl Try.underlying36 info3 rfl (by decide) (by omega) u5 x5_2 ((rd_T49 l1 x6_2).f1) [.int .i64 ((rd_T49 l1 x6_2).f1)] (fun _ => True) (fun _ => False) rfl rfl ?aP (fun _ hk => hk.elim) ?aF ?aO ?aB ?aS ?aL ?_; (case aP => exact rfl); (case aB => exact (pb HB)); (case aF => exact (fun _ _ => trivial)); (case aO => exact (pr HO_5)); (case aS => exact (uN (pb HB))); (case aL => have := LMc40.out; omega); intro v145 w41 ho hb hg hat; rw [← Ny144.out] at ho; replace HB := uD (hb); have HO146 := uD (ho); clear HO_5; clear ho hb hg hat))
                repeat (go_quiet (first | ((with_reducible refine gate_builtin (b := .append) (xs := #[.tmp 106, .tmp 112]) rfl ?_); at_builtin; refine Kd.R_append (Kd.int .i64) (w0 := w) w.heap.size rfl (.tmp 106) (.tmp 112) 36 3 (.int .i64 0) 8 rfl Try.underlying36 info3 rfl (by decide) (by omega) u5 x5_2 ((rd_T49 l1 x6_2).f1) [.int .i64 ((rd_T49 l1 x6_2).f1)] (fun _ => True) (fun _ => False) rfl rfl ?aP (fun _ hk => hk.elim) ?aF ?aO ?aB ?aS ?aL ?_; (case aP => exact rfl); (case aB => exact (pb HB)); (case aF => exact (fun _ _ => trivial)); (case aO => exact (pr HO_5)); (case aS => exact (uN (pb HB))); (case aL => have := LMc40.out; omega); intro v145 w41 ho hb hg hat; rw [← Ny144.out] at ho; replace HB := uD (hb); have HO146 := uD (ho); clear HO_5; clear ho hb hg hat)); try go_wp2_with (first | ((with_reducible refine gate_builtin (b := .append) (xs := #[.tmp 106, .tmp 112]) rfl ?_); at_builtin; refine Kd.R_append (Kd.int .i64) (w0 := w) w.heap.size rfl (.tmp 106) (.tmp 112) 36 3 (.int .i64 0) 8 rfl Try.underlying36 info3 rfl (by decide) (by omega) u5 x5_2 ((rd_T49 l1 x6_2).f1) [.int .i64 ((rd_T49 l1 x6_2).f1)] (fun _ => True) (fun _ => False) rfl rfl ?aP (fun _ hk => hk.elim) ?aF ?aO ?aB ?aS ?aL ?_; (case aP => exact rfl); (case aB => exact (pb HB)); (case aF => exact (fun _ _ => trivial)); (case aO => exact (pr HO_5)); (case aS => exact (uN (pb HB))); (case aL => have := LMc40.out; omega); intro v145 w41 ho hb hg hat; rw [← Ny144.out] at ho; replace HB := uD (hb); have HO146 := uD (ho); clear HO_5; clear ho hb hg hat)))
                go_roundg kj11
                case measure => have := HJ2.out; have := HK2.out; have := HK3.out; have := HJ11.out; omega
                case rel => exact ⟨(y144), (wrap64 (x6_2 + 1)), (by first | rfl | (simp; done) | (simp [*]; done)), H', ⟨by have := HJ2.out; have := HK2.out; have := HK3.out; have := HJ11.out; omega⟩, ⟨by (with_reducible repeat (first | apply uU | apply uS | apply uT)); exact HO146.out⟩, ⟨pb HB⟩⟩
               ·rw [if_neg c40] at H
                exact absurd H (by simp)
              ·rw [if_neg c39] at H
               exact absurd H (by simp)
             ·rw [if_neg c38] at H
              exact absurd H (by simp)
      ·rw [if_neg c11] at H
       have c11b0 : decide (x6_2 < (l1.length : Int)) = false := decide_eq_false c11
       clear c11
       obtain rfl := Option.some.inj H
       go_wp2
       repeat (go_quiet (fail); try go_wp2)
       go_ret
       exact ⟨_, by first | rfl | (simp [errW_none, errW_some] <;> rfl) | (simp [*, errW_none, errW_some] <;> rfl), by (with_reducible repeat (first | apply uU | apply uS | apply uT)); exact HO_5.out, pb HB⟩

end Go.Proofs.Ytnnimbbffbfhoaa.PFnAssigned
