-- Written by a program of this session (wip/myprint.py: the kit's print with changes): not by print.sh itself.
import Derived.Test.YtbdjbdoelbmjcaaPFnBeltRunsx0
import Derived.Test.YtbdjbdoelbmjcaaPFnBeltRunsx3
import Derived.Test.YtbdjbdoelbmjcaaPFnBeltRunsx5
import Derived.Test.YtbdjbdoelbmjcaaPFnBeltRunsx7
import Derived.Test.YtbdjbdoelbmjcaaPFnBeltRunsx9
import Derived.Test.YtbdjbdoelbmjcaaPFnBeltRunsx10
namespace Go.Proofs.Ytbdjbdoelbmjcaa.PFnBeltRuns
open Go.RowKit Go.Proofs.YtbdjbdoelbmjcaaW.PrintWords Go.Proofs.YtbdjbdoelbmjcaaW.PrintLast Go.Proofs.YtbdjbdoelbmjcaaW.PrintMore
open Go renaming Act.put → uc
open Go.Proofs.YtbdjbdoelbmjcaaW.PrintLast renaming i64_w → uZ, i32_w → ua
open Go.Proofs.YtbdjbdoelbmjcaaW.PrintWords renaming Aside0.mk → uD, pw_below_drewN → uE, blk_cell → uF, blk_alloc → uG, blk_drewN → uH, blk_frozen → uI, blk_drew → uJ, below_drew1 → uK, below_alloc → uL, below_set → uM, below_size → uN, below_step → uO, blk_put → uP, blk_far → uQ, Kd.R_drewN → uS, Kd.R_drew → uT, Kd.R_alloc → uU, Kd.R_far → uV, Kd.R_types → uW, Kd.R_mono → uX
open List renaming setIfInBounds_toArray → uA, set_cons_zero → uB, set_cons_succ → uC
attribute [local go_sem] max2_int min2_int max_two min_two max_three min_three max_four min_four   -- for this text's walks alone
set_option linter.unusedVariables false
set_option linter.unusedSimpArgs false

/-! ### laws_FnBeltRuns: function 13 -/
mutual
def laws_FnBeltRuns.j0 : Nat → Int → Bool → Int → Int → Bool → List (S53) → Option (Bool)
 | 0, _, _, _, _, _, _ => none
 | k + 1, x1, x22, x263000, x263001, x263002, x263003 => if x22 = true then (some true) else ((impl_Run.f k x263000 x263001 x263002 x263003 x1).bind fun bt264 => ((spec_Run.f k x263000 x263001 x263002 x263003 x1).bind fun bt274 => ((laws_sameBelt.f k bt264.1 bt264.2.1 bt264.2.2.1 bt264.2.2.2.1 bt274.1 bt274.2.1 bt274.2.2.1 bt274.2.2.2.1).bind fun t284 => (if t284 = true then ((laws_sameExits.f k bt264.2.2.2.2 bt274.2.2.2.2).bind fun t285 => (laws_FnBeltRuns.j1 k x1 bt264.2.2.2.2 (!t285) x263000 x263001 x263002 x263003 bt264.1 bt264.2.1 bt264.2.2.1 bt264.2.2.2.1)) else (laws_FnBeltRuns.j1 k x1 bt264.2.2.2.2 true x263000 x263001 x263002 x263003 bt264.1 bt264.2.1 bt264.2.2.1 bt264.2.2.2.1)))))
def laws_FnBeltRuns.j1 : Nat → Int → List (S56) → Bool → Int → Int → Bool → List (S53) → Int → Int → Bool → List (S53) → Option (Bool)
 | 0, _, _, _, _, _, _, _, _, _, _, _ => none
 | k + 1, x1, x6, x44, x263000, x263001, x263002, x263003, x274000, x274001, x274002, x274003 => if x44 = true then (some false) else (laws_FnBeltRuns.l0 k x1 x6 0 0 x263000 x263001 x263002 x263003 x274000 x274001 x274002 x274003)
def laws_FnBeltRuns.l0 : Nat → Int → List (S56) → Int → Int → Int → Int → Bool → List (S53) → Int → Int → Bool → List (S53) → Option (Bool)
 | 0, _, _, _, _, _, _, _, _, _, _, _, _ => none
 | k + 1, x1, x6, x9, x10, x263000, x263001, x263002, x263003, x274000, x274001, x274002, x274003 => if x10 < (x263003.length : Int) then (if 0 ≤ x10 then (if x263002 = true then (laws_FnBeltRuns.j3 k x1 x6 x9 x10 (wrap64 (x263000 - ((rd_T53 x263003 x10).f1))) true x263000 x263001 x263002 x263003 x274000 x274001 x274002 x274003) else (laws_FnBeltRuns.j3 k x1 x6 x9 x10 (wrap64 (x263000 - ((rd_T53 x263003 x10).f1))) (decide ((wrap64 (x263000 - ((rd_T53 x263003 x10).f1))) ≥ x1)) x263000 x263001 x263002 x263003 x274000 x274001 x274002 x274003)) else (none)) else (if x9 = (x6.length : Int) then ((impl_BeltOk.f k x274000 x274001 x274002 x274003).bind fun t286 => (if t286 = true then (some ((wrap64 ((x274003.length : Int) + x9)) == (x263003.length : Int))) else (some false))) else (some false))
def laws_FnBeltRuns.j3 : Nat → Int → List (S56) → Int → Int → Int → Bool → Int → Int → Bool → List (S53) → Int → Int → Bool → List (S53) → Option (Bool)
 | 0, _, _, _, _, _, _, _, _, _, _, _, _, _, _ => none
 | k + 1, x1, x6, x9, x10, x11, x67, x263000, x263001, x263002, x263003, x274000, x274001, x274002, x274003 => if x67 = true then (laws_FnBeltRuns.l0 k x1 x6 x9 (wrap64 (x10 + 1)) x263000 x263001 x263002 x263003 x274000 x274001 x274002 x274003) else (if x9 ≥ (x6.length : Int) then (some false) else (if 0 ≤ x9 then (if x9 < (x6.length : Int) then (if 0 ≤ x10 then (if x10 < (x263003.length : Int) then (if ((rd_T56 x6 x9).f0) = ((rd_T53 x263003 x10).f0) then (if ((rd_T56 x6 x9).f1) = x11 then (laws_FnBeltRuns.l0 k x1 x6 (wrap64 (x9 + 1)) (wrap64 (x10 + 1)) x263000 x263001 x263002 x263003 x274000 x274001 x274002 x274003) else (some false)) else (some false)) else (none)) else (none)) else (none)) else (none)))
end
def laws_FnBeltRuns.f (k : Nat) (a0_0 : Int) (a0_1 : Int) (a0_2 : Bool) (l0_3 : List (S53)) (a1 : Int) : Option (Bool) := (spec_BeltOk.f k a0_0 a0_1 a0_2 l0_3).bind fun t263 => (if t263 = true then (if a1 < 0 then (laws_FnBeltRuns.j0 k a1 true a0_0 a0_1 a0_2 l0_3) else (laws_FnBeltRuns.j0 k a1 (decide (a1 > 2000)) a0_0 a0_1 a0_2 l0_3)) else (laws_FnBeltRuns.j0 k a1 true a0_0 a0_1 a0_2 l0_3))
theorem laws_FnBeltRuns.mono_l : ∀ k, (∀ y0 y1 y2 y3 y4 y5, LeO (laws_FnBeltRuns.j0 k y0 y1 y2 y3 y4 y5) (laws_FnBeltRuns.j0 (k + 1) y0 y1 y2 y3 y4 y5)) ∧ (∀ y0 y1 y2 y3 y4 y5 y6 y7 y8 y9 y10, LeO (laws_FnBeltRuns.j1 k y0 y1 y2 y3 y4 y5 y6 y7 y8 y9 y10) (laws_FnBeltRuns.j1 (k + 1) y0 y1 y2 y3 y4 y5 y6 y7 y8 y9 y10)) ∧ (∀ y0 y1 y2 y3 y4 y5 y6 y7 y8 y9 y10 y11, LeO (laws_FnBeltRuns.l0 k y0 y1 y2 y3 y4 y5 y6 y7 y8 y9 y10 y11) (laws_FnBeltRuns.l0 (k + 1) y0 y1 y2 y3 y4 y5 y6 y7 y8 y9 y10 y11)) ∧ (∀ y0 y1 y2 y3 y4 y5 y6 y7 y8 y9 y10 y11 y12 y13, LeO (laws_FnBeltRuns.j3 k y0 y1 y2 y3 y4 y5 y6 y7 y8 y9 y10 y11 y12 y13) (laws_FnBeltRuns.j3 (k + 1) y0 y1 y2 y3 y4 y5 y6 y7 y8 y9 y10 y11 y12 y13))
 | 0 => ⟨fun _ _ _ _ _ _ r h => by simp [laws_FnBeltRuns.j0] at h, fun _ _ _ _ _ _ _ _ _ _ _ r h => by simp [laws_FnBeltRuns.j1] at h, fun _ _ _ _ _ _ _ _ _ _ _ _ r h => by simp [laws_FnBeltRuns.l0] at h, fun _ _ _ _ _ _ _ _ _ _ _ _ _ _ r h => by simp [laws_FnBeltRuns.j3] at h⟩
 | k + 1 => by
  obtain ⟨ih0, ih1, ih2, ih3⟩ := laws_FnBeltRuns.mono_l k
  refine ⟨?_, ?_, ?_, ?_⟩
  ·intro y0 y1 y2 y3 y4 y5
   unfold laws_FnBeltRuns.j0
   repeat' first
   | (with_reducible exact ih0 _ _ _ _ _ _)
   | (with_reducible exact ih1 _ _ _ _ _ _ _ _ _ _ _)
   | (with_reducible exact ih2 _ _ _ _ _ _ _ _ _ _ _ _)
   | (with_reducible exact ih3 _ _ _ _ _ _ _ _ _ _ _ _ _ _)
   | (with_reducible exact impl_BeltOk.mono _ _ _ _ _)
   | (with_reducible exact impl_Run.mono _ _ _ _ _ _)
   | (with_reducible exact laws_sameBelt.mono _ _ _ _ _ _ _ _ _)
   | (with_reducible exact laws_sameExits.mono _ _ _)
   | (with_reducible exact spec_BeltOk.mono _ _ _ _ _)
   | (with_reducible exact spec_Run.mono _ _ _ _ _ _)
   | (with_reducible exact LeO.refl _)
   | (with_reducible exact LeO.none _)
   | (with_reducible refine LeO.ite ?_ ?_)
   | (with_reducible refine LeO.bind ?_ (fun _ => ?_))
   | exact ih0 _ _ _ _ _ _
   | exact ih1 _ _ _ _ _ _ _ _ _ _ _
   | exact ih2 _ _ _ _ _ _ _ _ _ _ _ _
   | exact ih3 _ _ _ _ _ _ _ _ _ _ _ _ _ _
   | exact impl_BeltOk.mono _ _ _ _ _
   | exact impl_Run.mono _ _ _ _ _ _
   | exact laws_sameBelt.mono _ _ _ _ _ _ _ _ _
   | exact laws_sameExits.mono _ _ _
   | exact spec_BeltOk.mono _ _ _ _ _
   | exact spec_Run.mono _ _ _ _ _ _
   | exact LeO.none _
   | refine LeO.ite ?_ ?_
   | refine LeO.bind ?_ (fun _ => ?_)
  ·intro y0 y1 y2 y3 y4 y5 y6 y7 y8 y9 y10
   unfold laws_FnBeltRuns.j1
   repeat' first
   | (with_reducible exact ih0 _ _ _ _ _ _)
   | (with_reducible exact ih1 _ _ _ _ _ _ _ _ _ _ _)
   | (with_reducible exact ih2 _ _ _ _ _ _ _ _ _ _ _ _)
   | (with_reducible exact ih3 _ _ _ _ _ _ _ _ _ _ _ _ _ _)
   | (with_reducible exact impl_BeltOk.mono _ _ _ _ _)
   | (with_reducible exact impl_Run.mono _ _ _ _ _ _)
   | (with_reducible exact laws_sameBelt.mono _ _ _ _ _ _ _ _ _)
   | (with_reducible exact laws_sameExits.mono _ _ _)
   | (with_reducible exact spec_BeltOk.mono _ _ _ _ _)
   | (with_reducible exact spec_Run.mono _ _ _ _ _ _)
   | (with_reducible exact LeO.refl _)
   | (with_reducible exact LeO.none _)
   | (with_reducible refine LeO.ite ?_ ?_)
   | (with_reducible refine LeO.bind ?_ (fun _ => ?_))
   | exact ih0 _ _ _ _ _ _
   | exact ih1 _ _ _ _ _ _ _ _ _ _ _
   | exact ih2 _ _ _ _ _ _ _ _ _ _ _ _
   | exact ih3 _ _ _ _ _ _ _ _ _ _ _ _ _ _
   | exact impl_BeltOk.mono _ _ _ _ _
   | exact impl_Run.mono _ _ _ _ _ _
   | exact laws_sameBelt.mono _ _ _ _ _ _ _ _ _
   | exact laws_sameExits.mono _ _ _
   | exact spec_BeltOk.mono _ _ _ _ _
   | exact spec_Run.mono _ _ _ _ _ _
   | exact LeO.none _
   | refine LeO.ite ?_ ?_
   | refine LeO.bind ?_ (fun _ => ?_)
  ·intro y0 y1 y2 y3 y4 y5 y6 y7 y8 y9 y10 y11
   unfold laws_FnBeltRuns.l0
   repeat' first
   | (with_reducible exact ih0 _ _ _ _ _ _)
   | (with_reducible exact ih1 _ _ _ _ _ _ _ _ _ _ _)
   | (with_reducible exact ih2 _ _ _ _ _ _ _ _ _ _ _ _)
   | (with_reducible exact ih3 _ _ _ _ _ _ _ _ _ _ _ _ _ _)
   | (with_reducible exact impl_BeltOk.mono _ _ _ _ _)
   | (with_reducible exact impl_Run.mono _ _ _ _ _ _)
   | (with_reducible exact laws_sameBelt.mono _ _ _ _ _ _ _ _ _)
   | (with_reducible exact laws_sameExits.mono _ _ _)
   | (with_reducible exact spec_BeltOk.mono _ _ _ _ _)
   | (with_reducible exact spec_Run.mono _ _ _ _ _ _)
   | (with_reducible exact LeO.refl _)
   | (with_reducible exact LeO.none _)
   | (with_reducible refine LeO.ite ?_ ?_)
   | (with_reducible refine LeO.bind ?_ (fun _ => ?_))
   | exact ih0 _ _ _ _ _ _
   | exact ih1 _ _ _ _ _ _ _ _ _ _ _
   | exact ih2 _ _ _ _ _ _ _ _ _ _ _ _
   | exact ih3 _ _ _ _ _ _ _ _ _ _ _ _ _ _
   | exact impl_BeltOk.mono _ _ _ _ _
   | exact impl_Run.mono _ _ _ _ _ _
   | exact laws_sameBelt.mono _ _ _ _ _ _ _ _ _
   | exact laws_sameExits.mono _ _ _
   | exact spec_BeltOk.mono _ _ _ _ _
   | exact spec_Run.mono _ _ _ _ _ _
   | exact LeO.none _
   | refine LeO.ite ?_ ?_
   | refine LeO.bind ?_ (fun _ => ?_)
  ·intro y0 y1 y2 y3 y4 y5 y6 y7 y8 y9 y10 y11 y12 y13
   unfold laws_FnBeltRuns.j3
   repeat' first
   | (with_reducible exact ih0 _ _ _ _ _ _)
   | (with_reducible exact ih1 _ _ _ _ _ _ _ _ _ _ _)
   | (with_reducible exact ih2 _ _ _ _ _ _ _ _ _ _ _ _)
   | (with_reducible exact ih3 _ _ _ _ _ _ _ _ _ _ _ _ _ _)
   | (with_reducible exact impl_BeltOk.mono _ _ _ _ _)
   | (with_reducible exact impl_Run.mono _ _ _ _ _ _)
   | (with_reducible exact laws_sameBelt.mono _ _ _ _ _ _ _ _ _)
   | (with_reducible exact laws_sameExits.mono _ _ _)
   | (with_reducible exact spec_BeltOk.mono _ _ _ _ _)
   | (with_reducible exact spec_Run.mono _ _ _ _ _ _)
   | (with_reducible exact LeO.refl _)
   | (with_reducible exact LeO.none _)
   | (with_reducible refine LeO.ite ?_ ?_)
   | (with_reducible refine LeO.bind ?_ (fun _ => ?_))
   | exact ih0 _ _ _ _ _ _
   | exact ih1 _ _ _ _ _ _ _ _ _ _ _
   | exact ih2 _ _ _ _ _ _ _ _ _ _ _ _
   | exact ih3 _ _ _ _ _ _ _ _ _ _ _ _ _ _
   | exact impl_BeltOk.mono _ _ _ _ _
   | exact impl_Run.mono _ _ _ _ _ _
   | exact laws_sameBelt.mono _ _ _ _ _ _ _ _ _
   | exact laws_sameExits.mono _ _ _
   | exact spec_BeltOk.mono _ _ _ _ _
   | exact spec_Run.mono _ _ _ _ _ _
   | exact LeO.none _
   | refine LeO.ite ?_ ?_
   | refine LeO.bind ?_ (fun _ => ?_)
theorem laws_FnBeltRuns.mono : ∀ a0 a1 a2 a3 a4 k, LeO (laws_FnBeltRuns.f k a0 a1 a2 a3 a4) (laws_FnBeltRuns.f (k + 1) a0 a1 a2 a3 a4) := by
 intro a0 a1 a2 a3 a4 k
 obtain ⟨ih0, ih1, ih2, ih3⟩ := laws_FnBeltRuns.mono_l k
 unfold laws_FnBeltRuns.f
 repeat' first
   | (with_reducible exact ih0 _ _ _ _ _ _)
   | (with_reducible exact ih1 _ _ _ _ _ _ _ _ _ _ _)
   | (with_reducible exact ih2 _ _ _ _ _ _ _ _ _ _ _ _)
   | (with_reducible exact ih3 _ _ _ _ _ _ _ _ _ _ _ _ _ _)
   | (with_reducible exact impl_BeltOk.mono _ _ _ _ _)
   | (with_reducible exact impl_Run.mono _ _ _ _ _ _)
   | (with_reducible exact laws_sameBelt.mono _ _ _ _ _ _ _ _ _)
   | (with_reducible exact laws_sameExits.mono _ _ _)
   | (with_reducible exact spec_BeltOk.mono _ _ _ _ _)
   | (with_reducible exact spec_Run.mono _ _ _ _ _ _)
   | (with_reducible exact LeO.refl _)
   | (with_reducible exact LeO.none _)
   | (with_reducible refine LeO.ite ?_ ?_)
   | (with_reducible refine LeO.bind ?_ (fun _ => ?_))
   | exact ih0 _ _ _ _ _ _
   | exact ih1 _ _ _ _ _ _ _ _ _ _ _
   | exact ih2 _ _ _ _ _ _ _ _ _ _ _ _
   | exact ih3 _ _ _ _ _ _ _ _ _ _ _ _ _ _
   | exact impl_BeltOk.mono _ _ _ _ _
   | exact impl_Run.mono _ _ _ _ _ _
   | exact laws_sameBelt.mono _ _ _ _ _ _ _ _ _
   | exact laws_sameExits.mono _ _ _
   | exact spec_BeltOk.mono _ _ _ _ _
   | exact spec_Run.mono _ _ _ _ _ _
   | exact LeO.none _
   | refine LeO.ite ?_ ?_
   | refine LeO.bind ?_ (fun _ => ?_)
set_option maxHeartbeats 8000000 in
set_option maxRecDepth 100000 in
theorem laws_FnBeltRuns.calls (k : Nat) (a0_0 : Int) (a0_1 : Int) (a0_2 : Bool) (A0_3 : Option Addr) (c0_3 : Nat) (l0_3 : List (S53)) (a1 : Int) (w : World) (hr0_3 : Kd.C k53 w A0_3 l0_3.length l0_3) (hc0_3 : l0_3.length ≤ c0_3) (h : laws_FnBeltRuns.f k a0_0 a0_1 a0_2 l0_3 a1 = some true) :
  Calls Try.prog 13 #[.agg #[.int .i64 a0_0, .int .i64 a0_1, .bool a0_2, .slice A0_3 l0_3.length c0_3], .int .i64 a1] w fun e w' => e = .returned (.bool true) ∧ Below w.heap.size w w' := by
 have hu29 := Try.underlying29
 have HR0_3 := uD hr0_3
 have HC0_3 := uD hc0_3
 clear hr0_3 hc0_3
 have HB := uD (Below.refl w.heap.size w)
 have H : ((spec_BeltOk.f k a0_0 a0_1 a0_2 l0_3).bind fun t263 => (if t263 = true then (if a1 < 0 then (laws_FnBeltRuns.j0 k a1 true a0_0 a0_1 a0_2 l0_3) else (laws_FnBeltRuns.j0 k a1 (decide (a1 > 2000)) a0_0 a0_1 a0_2 l0_3)) else (laws_FnBeltRuns.j0 k a1 true a0_0 a0_1 a0_2 l0_3))) = some true := h
 clear h
 have HC3 := uD H
 clear H
 go_enter Try.func13, Try.ntmps13
 go_upto_region 1 with (first | ((with_reducible refine gate_dst (N := 2) rfl ?_); (try (refine gate_guard (by rfl) ?_; dsimp only)); refine box_event ?hg (N := 2) ?hd (cs := #[.int .i64 a0_0, .int .i64 a0_1, .bool a0_2, .slice A0_3 l0_3.length c0_3]) (t := 29) ?hr ?_; (case hd => rfl); (case hg => rfl); (case hr => first | (go_simp; done) | (go_simp; rfl)); intro gb262 hg w4 hbox hb; have BK262 := uD (hbox); have GW262 := uD ((by rw [hg]; exact (uN (by repeat (first | (with_reducible first | exact HB.out | apply uL | apply uE | apply uK) | exact HB.out))) : w.heap.size ≤ gb262)); have GE262 := uD ((by rw [hg]; exact (uN (by repeat (first | (with_reducible first | exact HB.out | apply uL | apply uE | apply uK) | exact HB.out))) : w.heap.size ≤ gb262)); replace HB := uD (uO (by repeat (first | (with_reducible first | exact HB.out | apply uL | apply uE | apply uK) | exact HB.out)) hb); clear hb hbox hg))
 repeat (go_quiet (first | ((with_reducible refine gate_dst (N := 2) rfl ?_); (try (refine gate_guard (by rfl) ?_; dsimp only)); refine box_event ?hg (N := 2) ?hd (cs := #[.int .i64 a0_0, .int .i64 a0_1, .bool a0_2, .slice A0_3 l0_3.length c0_3]) (t := 29) ?hr ?_; (case hd => rfl); (case hg => rfl); (case hr => first | (go_simp; done) | (go_simp; rfl)); intro gb262 hg w4 hbox hb; have BK262 := uD (hbox); have GW262 := uD ((by rw [hg]; exact (uN (by repeat (first | (with_reducible first | exact HB.out | apply uL | apply uE | apply uK) | exact HB.out))) : w.heap.size ≤ gb262)); have GE262 := uD ((by rw [hg]; exact (uN (by repeat (first | (with_reducible first | exact HB.out | apply uL | apply uE | apply uK) | exact HB.out))) : w.heap.size ≤ gb262)); replace HB := uD (uO (by repeat (first | (with_reducible first | exact HB.out | apply uL | apply uE | apply uK) | exact HB.out)) hb); clear hb hbox hg)); go_upto_region 1 with (first | ((with_reducible refine gate_dst (N := 2) rfl ?_); (try (refine gate_guard (by rfl) ?_; dsimp only)); refine box_event ?hg (N := 2) ?hd (cs := #[.int .i64 a0_0, .int .i64 a0_1, .bool a0_2, .slice A0_3 l0_3.length c0_3]) (t := 29) ?hr ?_; (case hd => rfl); (case hg => rfl); (case hr => first | (go_simp; done) | (go_simp; rfl)); intro gb262 hg w4 hbox hb; have BK262 := uD (hbox); have GW262 := uD ((by rw [hg]; exact (uN (by repeat (first | (with_reducible first | exact HB.out | apply uL | apply uE | apply uK) | exact HB.out))) : w.heap.size ≤ gb262)); have GE262 := uD ((by rw [hg]; exact (uN (by repeat (first | (with_reducible first | exact HB.out | apply uL | apply uE | apply uK) | exact HB.out))) : w.heap.size ≤ gb262)); replace HB := uD (uO (by repeat (first | (with_reducible first | exact HB.out | apply uL | apply uE | apply uK) | exact HB.out)) hb); clear hb hbox hg)))
 (try simp only [uc, uA, uB, uC])
 go_cut [22] (fun v22 wc => ∃ (kq : Nat) (x22_2 : Bool), v22 = .bool x22_2 ∧ Aside0 (laws_FnBeltRuns.j0 kq a1 x22_2 a0_0 a0_1 a0_2 l0_3 = some true) ∧ Aside0 (kq ≤ k) ∧ Aside0 (wc.heap[gb262]? = some (.cells #[.int .i64 a0_0, .int .i64 a0_1, .bool a0_2, (.slice A0_3 l0_3.length c0_3)] 29 (0, 0))) ∧ Aside0 (Below w.heap.size w wc))
 case first =>
  have H := HC3.out
  clear HC3
  replace H := Option.bind_eq_some_iff.mp H
  obtain ⟨t263, A50, H⟩ := H
  replace H : (if t263 = true then (if a1 < 0 then (laws_FnBeltRuns.j0 k a1 true a0_0 a0_1 a0_2 l0_3) else (laws_FnBeltRuns.j0 k a1 (decide (a1 > 2000)) a0_0 a0_1 a0_2 l0_3)) else (laws_FnBeltRuns.j0 k a1 true a0_0 a0_1 a0_2 l0_3)) = some true := H
  have A5 := uD A50
  clear A50
  by_cases c6 : t263 = true
  ·subst c6
   have H1 : (if a1 < 0 then (laws_FnBeltRuns.j0 k a1 true a0_0 a0_1 a0_2 l0_3) else (laws_FnBeltRuns.j0 k a1 (decide (a1 > 2000)) a0_0 a0_1 a0_2 l0_3)) = some true := by rw [if_pos rfl] at H; first | done | exact H
   clear H
   have H := H1
   clear H1
   by_cases c7 : a1 < 0
   ·rw [if_pos c7] at H
    have c7b0 : decide (a1 < 0) = true := decide_eq_true c7
    clear c7
    (first | rw [c7b0] | (simp only [uZ, ua]; rw [c7b0]) | skip)
    have H' := uD H
    clear H
    have hcz8_0 : w4.cell? ⟨gb262, 0, none⟩ = some (.int .i64 a0_0) := (uF BK262.out 0).trans rfl
    have hcz8_1 : w4.cell? ⟨gb262, 1, none⟩ = some (.int .i64 a0_1) := (uF BK262.out 1).trans rfl
    have hcz8_2 : w4.cell? ⟨gb262, 2, none⟩ = some (.bool a0_2) := (uF BK262.out 2).trans rfl
    have hcz8_3 : w4.cell? ⟨gb262, 3, none⟩ = some (.slice A0_3 l0_3.length c0_3) := (uF BK262.out 3).trans rfl
    have hfz8_0 := uI BK262.out 0
    have hfz8_1 := uI BK262.out 1
    have hfz8_2 := uI BK262.out 2
    have hfz8_3 := uI BK262.out 3
    go_wp2_with (first | (go_at_call 16; (with_reducible refine (spec_BeltOk.calls k a0_0 a0_1 a0_2 _ _ l0_3 true _ ?side1 ?side2 A5.out).mono ?_); (case side1 => repeat (first | exact (Kd.C_below HR0_3.out HB.out) | (with_reducible refine Kd.C_alloc ?_ _) | (with_reducible refine Kd.C_drewN ?_ _) | (with_reducible refine Kd.C_drew ?_))); (case side2 => exact HC0_3.out); rintro e w9 ⟨rfl, hb⟩; replace BK262 := uD (blk_below (g := gb262) (o := .cells #[.int .i64 a0_0, .int .i64 a0_1, .bool a0_2, .slice A0_3 l0_3.length c0_3] 29 (0, 0)) (by (with_reducible repeat (first | refine uH ?_ _ | refine uJ ?_ | refine uG ?_ _)); exact BK262.out) hb); replace HB := uD (uO (by repeat (first | (with_reducible first | exact HB.out | apply uL | apply uE | apply uK | refine uM ?_ GE262.out) | exact HB.out)) hb); (try clear hb); (try clear hb2); (try clear hk); (try clear hi)))
    repeat (go_quiet (first | (go_at_call 16; (with_reducible refine (spec_BeltOk.calls k a0_0 a0_1 a0_2 _ _ l0_3 true _ ?side1 ?side2 A5.out).mono ?_); (case side1 => repeat (first | exact (Kd.C_below HR0_3.out HB.out) | (with_reducible refine Kd.C_alloc ?_ _) | (with_reducible refine Kd.C_drewN ?_ _) | (with_reducible refine Kd.C_drew ?_))); (case side2 => exact HC0_3.out); rintro e w9 ⟨rfl, hb⟩; replace BK262 := uD (blk_below (g := gb262) (o := .cells #[.int .i64 a0_0, .int .i64 a0_1, .bool a0_2, .slice A0_3 l0_3.length c0_3] 29 (0, 0)) (by (with_reducible repeat (first | refine uH ?_ _ | refine uJ ?_ | refine uG ?_ _)); exact BK262.out) hb); replace HB := uD (uO (by repeat (first | (with_reducible first | exact HB.out | apply uL | apply uE | apply uK | refine uM ?_ GE262.out) | exact HB.out)) hb); (try clear hb); (try clear hb2); (try clear hk); (try clear hi))); try go_wp2_with (first | (go_at_call 16; (with_reducible refine (spec_BeltOk.calls k a0_0 a0_1 a0_2 _ _ l0_3 true _ ?side1 ?side2 A5.out).mono ?_); (case side1 => repeat (first | exact (Kd.C_below HR0_3.out HB.out) | (with_reducible refine Kd.C_alloc ?_ _) | (with_reducible refine Kd.C_drewN ?_ _) | (with_reducible refine Kd.C_drew ?_))); (case side2 => exact HC0_3.out); rintro e w9 ⟨rfl, hb⟩; replace BK262 := uD (blk_below (g := gb262) (o := .cells #[.int .i64 a0_0, .int .i64 a0_1, .bool a0_2, .slice A0_3 l0_3.length c0_3] 29 (0, 0)) (by (with_reducible repeat (first | refine uH ?_ _ | refine uJ ?_ | refine uG ?_ _)); exact BK262.out) hb); replace HB := uD (uO (by repeat (first | (with_reducible first | exact HB.out | apply uL | apply uE | apply uK | refine uM ?_ GE262.out) | exact HB.out)) hb); (try clear hb); (try clear hb2); (try clear hk); (try clear hi))))
    go_meet
    case rel => exact ⟨_, (true), (by first | rfl | (simp; done) | (simp [*]; done)), H', ⟨by first | omega | exact Nat.le_refl _⟩, ⟨by (with_reducible repeat (first | refine uH ?_ _ | refine uJ ?_ | refine uG ?_ _)); exact BK262.out⟩, ⟨by repeat (first | (with_reducible first | exact HB.out | apply uL | apply uE | apply uK | refine uM ?_ GE262.out) | exact HB.out)⟩⟩
   ·rw [if_neg c7] at H
    have c7b0 : decide (a1 < 0) = false := decide_eq_false c7
    clear c7
    (first | rw [c7b0] | (simp only [uZ, ua]; rw [c7b0]) | skip)
    have H' := uD H
    clear H
    have hcz10_0 : w4.cell? ⟨gb262, 0, none⟩ = some (.int .i64 a0_0) := (uF BK262.out 0).trans rfl
    have hcz10_1 : w4.cell? ⟨gb262, 1, none⟩ = some (.int .i64 a0_1) := (uF BK262.out 1).trans rfl
    have hcz10_2 : w4.cell? ⟨gb262, 2, none⟩ = some (.bool a0_2) := (uF BK262.out 2).trans rfl
    have hcz10_3 : w4.cell? ⟨gb262, 3, none⟩ = some (.slice A0_3 l0_3.length c0_3) := (uF BK262.out 3).trans rfl
    have hfz10_0 := uI BK262.out 0
    have hfz10_1 := uI BK262.out 1
    have hfz10_2 := uI BK262.out 2
    have hfz10_3 := uI BK262.out 3
    go_wp2_with (first | (go_at_call 16; (with_reducible refine (spec_BeltOk.calls k a0_0 a0_1 a0_2 _ _ l0_3 true _ ?side1 ?side2 A5.out).mono ?_); (case side1 => repeat (first | exact (Kd.C_below HR0_3.out HB.out) | (with_reducible refine Kd.C_alloc ?_ _) | (with_reducible refine Kd.C_drewN ?_ _) | (with_reducible refine Kd.C_drew ?_))); (case side2 => exact HC0_3.out); rintro e w11 ⟨rfl, hb⟩; replace BK262 := uD (blk_below (g := gb262) (o := .cells #[.int .i64 a0_0, .int .i64 a0_1, .bool a0_2, .slice A0_3 l0_3.length c0_3] 29 (0, 0)) (by (with_reducible repeat (first | refine uH ?_ _ | refine uJ ?_ | refine uG ?_ _)); exact BK262.out) hb); replace HB := uD (uO (by repeat (first | (with_reducible first | exact HB.out | apply uL | apply uE | apply uK | refine uM ?_ GE262.out) | exact HB.out)) hb); (try clear hb); (try clear hb2); (try clear hk); (try clear hi)))
    repeat (go_quiet (first | (go_at_call 16; (with_reducible refine (spec_BeltOk.calls k a0_0 a0_1 a0_2 _ _ l0_3 true _ ?side1 ?side2 A5.out).mono ?_); (case side1 => repeat (first | exact (Kd.C_below HR0_3.out HB.out) | (with_reducible refine Kd.C_alloc ?_ _) | (with_reducible refine Kd.C_drewN ?_ _) | (with_reducible refine Kd.C_drew ?_))); (case side2 => exact HC0_3.out); rintro e w11 ⟨rfl, hb⟩; replace BK262 := uD (blk_below (g := gb262) (o := .cells #[.int .i64 a0_0, .int .i64 a0_1, .bool a0_2, .slice A0_3 l0_3.length c0_3] 29 (0, 0)) (by (with_reducible repeat (first | refine uH ?_ _ | refine uJ ?_ | refine uG ?_ _)); exact BK262.out) hb); replace HB := uD (uO (by repeat (first | (with_reducible first | exact HB.out | apply uL | apply uE | apply uK | refine uM ?_ GE262.out) | exact HB.out)) hb); (try clear hb); (try clear hb2); (try clear hk); (try clear hi))); try go_wp2_with (first | (go_at_call 16; (with_reducible refine (spec_BeltOk.calls k a0_0 a0_1 a0_2 _ _ l0_3 true _ ?side1 ?side2 A5.out).mono ?_); (case side1 => repeat (first | exact (Kd.C_below HR0_3.out HB.out) | (with_reducible refine Kd.C_alloc ?_ _) | (with_reducible refine Kd.C_drewN ?_ _) | (with_reducible refine Kd.C_drew ?_))); (case side2 => exact HC0_3.out); rintro e w11 ⟨rfl, hb⟩; replace BK262 := uD (blk_below (g := gb262) (o := .cells #[.int .i64 a0_0, .int .i64 a0_1, .bool a0_2, .slice A0_3 l0_3.length c0_3] 29 (0, 0)) (by (with_reducible repeat (first | refine uH ?_ _ | refine uJ ?_ | refine uG ?_ _)); exact BK262.out) hb); replace HB := uD (uO (by repeat (first | (with_reducible first | exact HB.out | apply uL | apply uE | apply uK | refine uM ?_ GE262.out) | exact HB.out)) hb); (try clear hb); (try clear hb2); (try clear hk); (try clear hi))))
    go_meet
    case rel => exact ⟨_, (decide (a1 > 2000)), (by first | rfl | (simp; done) | (simp [*]; done)), H', ⟨by first | omega | exact Nat.le_refl _⟩, ⟨by (with_reducible repeat (first | refine uH ?_ _ | refine uJ ?_ | refine uG ?_ _)); exact BK262.out⟩, ⟨by repeat (first | (with_reducible first | exact HB.out | apply uL | apply uE | apply uK | refine uM ?_ GE262.out) | exact HB.out)⟩⟩
  ·replace c6 := Bool.eq_false_iff.mpr c6
   subst c6
   have H1 : (laws_FnBeltRuns.j0 k a1 true a0_0 a0_1 a0_2 l0_3) = some true := by rw [if_neg (show ¬ (false = true) by decide)] at H; first | done | exact H
   clear H
   have H := H1
   clear H1
   have H' := uD H
   clear H
   have hcz12_0 : w4.cell? ⟨gb262, 0, none⟩ = some (.int .i64 a0_0) := (uF BK262.out 0).trans rfl
   have hcz12_1 : w4.cell? ⟨gb262, 1, none⟩ = some (.int .i64 a0_1) := (uF BK262.out 1).trans rfl
   have hcz12_2 : w4.cell? ⟨gb262, 2, none⟩ = some (.bool a0_2) := (uF BK262.out 2).trans rfl
   have hcz12_3 : w4.cell? ⟨gb262, 3, none⟩ = some (.slice A0_3 l0_3.length c0_3) := (uF BK262.out 3).trans rfl
   have hfz12_0 := uI BK262.out 0
   have hfz12_1 := uI BK262.out 1
   have hfz12_2 := uI BK262.out 2
   have hfz12_3 := uI BK262.out 3
   go_wp2_with (first | (go_at_call 16; (with_reducible refine (spec_BeltOk.calls k a0_0 a0_1 a0_2 _ _ l0_3 false _ ?side1 ?side2 A5.out).mono ?_); (case side1 => repeat (first | exact (Kd.C_below HR0_3.out HB.out) | (with_reducible refine Kd.C_alloc ?_ _) | (with_reducible refine Kd.C_drewN ?_ _) | (with_reducible refine Kd.C_drew ?_))); (case side2 => exact HC0_3.out); rintro e w13 ⟨rfl, hb⟩; replace BK262 := uD (blk_below (g := gb262) (o := .cells #[.int .i64 a0_0, .int .i64 a0_1, .bool a0_2, .slice A0_3 l0_3.length c0_3] 29 (0, 0)) (by (with_reducible repeat (first | refine uH ?_ _ | refine uJ ?_ | refine uG ?_ _)); exact BK262.out) hb); replace HB := uD (uO (by repeat (first | (with_reducible first | exact HB.out | apply uL | apply uE | apply uK | refine uM ?_ GE262.out) | exact HB.out)) hb); (try clear hb); (try clear hb2); (try clear hk); (try clear hi)))
   repeat (go_quiet (first | (go_at_call 16; (with_reducible refine (spec_BeltOk.calls k a0_0 a0_1 a0_2 _ _ l0_3 false _ ?side1 ?side2 A5.out).mono ?_); (case side1 => repeat (first | exact (Kd.C_below HR0_3.out HB.out) | (with_reducible refine Kd.C_alloc ?_ _) | (with_reducible refine Kd.C_drewN ?_ _) | (with_reducible refine Kd.C_drew ?_))); (case side2 => exact HC0_3.out); rintro e w13 ⟨rfl, hb⟩; replace BK262 := uD (blk_below (g := gb262) (o := .cells #[.int .i64 a0_0, .int .i64 a0_1, .bool a0_2, .slice A0_3 l0_3.length c0_3] 29 (0, 0)) (by (with_reducible repeat (first | refine uH ?_ _ | refine uJ ?_ | refine uG ?_ _)); exact BK262.out) hb); replace HB := uD (uO (by repeat (first | (with_reducible first | exact HB.out | apply uL | apply uE | apply uK | refine uM ?_ GE262.out) | exact HB.out)) hb); (try clear hb); (try clear hb2); (try clear hk); (try clear hi))); try go_wp2_with (first | (go_at_call 16; (with_reducible refine (spec_BeltOk.calls k a0_0 a0_1 a0_2 _ _ l0_3 false _ ?side1 ?side2 A5.out).mono ?_); (case side1 => repeat (first | exact (Kd.C_below HR0_3.out HB.out) | (with_reducible refine Kd.C_alloc ?_ _) | (with_reducible refine Kd.C_drewN ?_ _) | (with_reducible refine Kd.C_drew ?_))); (case side2 => exact HC0_3.out); rintro e w13 ⟨rfl, hb⟩; replace BK262 := uD (blk_below (g := gb262) (o := .cells #[.int .i64 a0_0, .int .i64 a0_1, .bool a0_2, .slice A0_3 l0_3.length c0_3] 29 (0, 0)) (by (with_reducible repeat (first | refine uH ?_ _ | refine uJ ?_ | refine uG ?_ _)); exact BK262.out) hb); replace HB := uD (uO (by repeat (first | (with_reducible first | exact HB.out | apply uL | apply uE | apply uK | refine uM ?_ GE262.out) | exact HB.out)) hb); (try clear hb); (try clear hb2); (try clear hk); (try clear hi))))
   go_meet
   case rel => exact ⟨_, (true), (by first | rfl | (simp; done) | (simp [*]; done)), H', ⟨by first | omega | exact Nat.le_refl _⟩, ⟨by (with_reducible repeat (first | refine uH ?_ _ | refine uJ ?_ | refine uG ?_ _)); exact BK262.out⟩, ⟨by repeat (first | (with_reducible first | exact HB.out | apply uL | apply uE | apply uK | refine uM ?_ GE262.out) | exact HB.out)⟩⟩
 case rest =>
  clear HC3
  try clear c1
  try clear p2
  try clear c6
  try clear c7
  try clear c7b0
  try clear c13
  try clear hcz10_0
  try clear hcz10_1
  try clear hcz10_2
  try clear hcz10_3
  try clear hcz12_0
  try clear hcz12_1
  try clear hcz12_2
  try clear hcz12_3
  try clear hcz8_0
  try clear hcz8_1
  try clear hcz8_2
  try clear hcz8_3
  try clear hfz10_0
  try clear hfz10_1
  try clear hfz10_2
  try clear hfz10_3
  try clear hfz12_0
  try clear hfz12_1
  try clear hfz12_2
  try clear hfz12_3
  try clear hfz8_0
  try clear hfz8_1
  try clear hfz8_2
  try clear hfz8_3
  obtain ⟨kq, x22_2, rfl, HA, HJ2, BK262, HB⟩ := hcut
  cases kq with
  | zero => exact absurd HA.out (by simp [laws_FnBeltRuns.j0])
  | succ kj2 =>
   have H := HA.out
   clear HA
   simp only [laws_FnBeltRuns.j0] at H
   by_cases c14 : x22_2 = true
   ·subst c14
    have H1 : (some true) = some true := by rw [if_pos rfl] at H; first | done | exact H
    clear H
    have H := H1
    clear H1
    have HT := Option.some.inj H
    clear H
    go_wp2
    repeat (go_quiet (fail); try go_wp2)
    go_ret
    exact ⟨by first | rfl | (simp [errW_none, errW_some] <;> rfl) | (simp [*, errW_none, errW_some] <;> rfl), by repeat (first | (with_reducible first | exact HB.out | apply uL | apply uE | apply uK | refine uM ?_ GE262.out) | exact HB.out)⟩
   ·replace c14 := Bool.eq_false_iff.mpr c14
    subst c14
    have H1 : ((impl_Run.f kj2 a0_0 a0_1 a0_2 l0_3 a1).bind fun bt264 => ((spec_Run.f kj2 a0_0 a0_1 a0_2 l0_3 a1).bind fun bt274 => ((laws_sameBelt.f kj2 bt264.1 bt264.2.1 bt264.2.2.1 bt264.2.2.2.1 bt274.1 bt274.2.1 bt274.2.2.1 bt274.2.2.2.1).bind fun t284 => (if t284 = true then ((laws_sameExits.f kj2 bt264.2.2.2.2 bt274.2.2.2.2).bind fun t285 => (laws_FnBeltRuns.j1 kj2 a1 bt264.2.2.2.2 (!t285) a0_0 a0_1 a0_2 l0_3 bt264.1 bt264.2.1 bt264.2.2.1 bt264.2.2.2.1)) else (laws_FnBeltRuns.j1 kj2 a1 bt264.2.2.2.2 true a0_0 a0_1 a0_2 l0_3 bt264.1 bt264.2.1 bt264.2.2.1 bt264.2.2.2.1))))) = some true := by rw [if_neg (show ¬ (false = true) by decide)] at H; first | done | exact H
    clear H
    have H := H1
    clear H1
    replace H := Option.bind_eq_some_iff.mp H
    obtain ⟨⟨t264, t265, t266, t267, t270⟩, A150, H⟩ := H
    replace H : ((spec_Run.f kj2 a0_0 a0_1 a0_2 l0_3 a1).bind fun bt274 => ((laws_sameBelt.f kj2 t264 t265 t266 t267 bt274.1 bt274.2.1 bt274.2.2.1 bt274.2.2.2.1).bind fun t284 => (if t284 = true then ((laws_sameExits.f kj2 t270 bt274.2.2.2.2).bind fun t285 => (laws_FnBeltRuns.j1 kj2 a1 t270 (!t285) a0_0 a0_1 a0_2 l0_3 t264 t265 t266 t267)) else (laws_FnBeltRuns.j1 kj2 a1 t270 true a0_0 a0_1 a0_2 l0_3 t264 t265 t266 t267)))) = some true := H
    have A15 := uD A150
    clear A150
    replace H := Option.bind_eq_some_iff.mp H
    obtain ⟨⟨t274, t275, t276, t277, t280⟩, A160, H⟩ := H
    replace H : ((laws_sameBelt.f kj2 t264 t265 t266 t267 t274 t275 t276 t277).bind fun t284 => (if t284 = true then ((laws_sameExits.f kj2 t270 t280).bind fun t285 => (laws_FnBeltRuns.j1 kj2 a1 t270 (!t285) a0_0 a0_1 a0_2 l0_3 t264 t265 t266 t267)) else (laws_FnBeltRuns.j1 kj2 a1 t270 true a0_0 a0_1 a0_2 l0_3 t264 t265 t266 t267))) = some true := H
    have A16 := uD A160
    clear A160
    have HC17 := uD H
    clear H
    have hcz18_0 : wc.cell? ⟨gb262, 0, none⟩ = some (.int .i64 a0_0) := (uF BK262.out 0).trans rfl
    have hcz18_1 : wc.cell? ⟨gb262, 1, none⟩ = some (.int .i64 a0_1) := (uF BK262.out 1).trans rfl
    have hcz18_2 : wc.cell? ⟨gb262, 2, none⟩ = some (.bool a0_2) := (uF BK262.out 2).trans rfl
    have hcz18_3 : wc.cell? ⟨gb262, 3, none⟩ = some (.slice A0_3 l0_3.length c0_3) := (uF BK262.out 3).trans rfl
    have hfz18_0 := uI BK262.out 0
    have hfz18_1 := uI BK262.out 1
    have hfz18_2 := uI BK262.out 2
    have hfz18_3 := uI BK262.out 3
    go_upto_region 5 with (first | (go_at_call 35; (with_reducible refine (impl_Run.calls kj2 a0_0 a0_1 a0_2 _ _ l0_3 a1 t264 t265 t266 t267 t270 _ ?side1 ?side2 A15.out).mono ?_); (case side1 => repeat (first | exact (Kd.C_below HR0_3.out HB.out) | (with_reducible refine Kd.C_alloc ?_ _) | (with_reducible refine Kd.C_drewN ?_ _) | (with_reducible refine Kd.C_drew ?_))); (case side2 => exact HC0_3.out); rintro e w19 ⟨v268, v271, rfl, ho0, ho1, hb⟩; have HO269 := uD (Kd.Q_lower ho0 (uN (by repeat (first | (with_reducible first | exact HB.out | apply uL | apply uE | apply uK | refine uM ?_ GE262.out) | exact HB.out)))); have HO272 := uD (Kd.R_lower ho1 (uN (by repeat (first | (with_reducible first | exact HB.out | apply uL | apply uE | apply uK | refine uM ?_ GE262.out) | exact HB.out)))); replace BK262 := uD (blk_below (g := gb262) (o := .cells #[.int .i64 a0_0, .int .i64 a0_1, .bool a0_2, .slice A0_3 l0_3.length c0_3] 29 (0, 0)) (by (with_reducible repeat (first | refine uH ?_ _ | refine uJ ?_ | refine uG ?_ _)); exact BK262.out) hb); replace HB := uD (uO (by repeat (first | (with_reducible first | exact HB.out | apply uL | apply uE | apply uK | refine uM ?_ GE262.out) | exact HB.out)) hb); (try clear hb); (try clear hb2); (try clear hk); (try clear hi); (try clear ho0); (try clear ho1)) | ((with_reducible refine gate_dst (N := 5) rfl ?_); (try (refine gate_guard (by rfl) ?_; dsimp only)); refine box_event ?hg (N := 5) ?hd (cs := #[.int .i64 0, .int .i64 0, .bool false, .slice none 0 0]) (t := 29) ?hr ?_; (case hd => rfl); (case hg => rfl); (case hr => first | (go_simp; done) | (go_simp; rfl)); intro gb273 hg w20 hbox hb; replace HO269 := uD (Kd.Q_below (by (with_reducible repeat (first | apply Kd.Q_alloc | apply Kd.Q_drewN | apply Kd.Q_drew)); exact HO269.out) hb); replace HO272 := uD (Kd.R_below (by (with_reducible repeat (first | apply uU | apply uS | apply uT)); exact HO272.out) hb); have BK273 := uD (hbox); have GW273 := uD ((by rw [hg]; exact (uN (by repeat (first | (with_reducible first | exact HB.out | apply uL | apply uE | apply uK | refine uM ?_ GE262.out) | exact HB.out))) : w.heap.size ≤ gb273)); have GE273 := uD ((by rw [hg]; exact (uN (by repeat (first | (with_reducible first | exact HB.out | apply uL | apply uE | apply uK | refine uM ?_ GE262.out) | exact HB.out))) : w.heap.size ≤ gb273)); replace HB := uD (uO (by repeat (first | (with_reducible first | exact HB.out | apply uL | apply uE | apply uK | refine uM ?_ GE262.out) | exact HB.out)) hb); have NB262_273 := uD ((by rw [hg]; exact Nat.ne_of_lt (blk_lt (g := gb262) (o := .cells #[.int .i64 a0_0, .int .i64 a0_1, .bool a0_2, .slice A0_3 l0_3.length c0_3] 29 (0, 0)) (by (with_reducible repeat (first | refine uH ?_ _ | refine uJ ?_ | refine uG ?_ _)); exact BK262.out)) : gb262 ≠ gb273)); have NB273_262 := uD ((by rw [hg]; exact Nat.ne_of_gt (blk_lt (g := gb262) (o := .cells #[.int .i64 a0_0, .int .i64 a0_1, .bool a0_2, .slice A0_3 l0_3.length c0_3] 29 (0, 0)) (by (with_reducible repeat (first | refine uH ?_ _ | refine uJ ?_ | refine uG ?_ _)); exact BK262.out)) : gb273 ≠ gb262)); replace BK262 := uD (blk_below (g := gb262) (o := .cells #[.int .i64 a0_0, .int .i64 a0_1, .bool a0_2, .slice A0_3 l0_3.length c0_3] 29 (0, 0)) (by (with_reducible repeat (first | refine uH ?_ _ | refine uJ ?_ | refine uG ?_ _)); exact BK262.out) hb); clear hb hbox hg; have hnb21 := NB273_262.out; have hnc21 := NB262_273.out; have hcz22_0 : w20.cell? ⟨gb273, 0, none⟩ = some (.int .i64 0) := (uF BK273.out 0).trans rfl; have hcz22_1 : w20.cell? ⟨gb273, 1, none⟩ = some (.int .i64 0) := (uF BK273.out 1).trans rfl; have hcz22_2 : w20.cell? ⟨gb273, 2, none⟩ = some (.bool false) := (uF BK273.out 2).trans rfl; have hcz22_3 : w20.cell? ⟨gb273, 3, none⟩ = some (.slice none 0 0) := (uF BK273.out 3).trans rfl; have hfz22_0 := uI BK273.out 0; have hfz22_1 := uI BK273.out 1; have hfz22_2 := uI BK273.out 2; have hfz22_3 := uI BK273.out 3; obtain ⟨Ao23, co23, eo23, _⟩ := Kd.Q_slice HO269.out; subst eo23; have hcz24_0 : w20.cell? ⟨gb262, 0, none⟩ = some (.int .i64 a0_0) := (uF BK262.out 0).trans rfl; have hcz24_1 : w20.cell? ⟨gb262, 1, none⟩ = some (.int .i64 a0_1) := (uF BK262.out 1).trans rfl; have hcz24_2 : w20.cell? ⟨gb262, 2, none⟩ = some (.bool a0_2) := (uF BK262.out 2).trans rfl; have hcz24_3 : w20.cell? ⟨gb262, 3, none⟩ = some (.slice A0_3 l0_3.length c0_3) := (uF BK262.out 3).trans rfl; have hfz24_0 := uI BK262.out 0; have hfz24_1 := uI BK262.out 1; have hfz24_2 := uI BK262.out 2; have hfz24_3 := uI BK262.out 3) | (go_at_call 34; (with_reducible refine (spec_Run.calls kj2 a0_0 a0_1 a0_2 _ _ l0_3 a1 t274 t275 t276 t277 t280 _ ?side1 ?side2 A16.out).mono ?_); (case side1 => exact Kd.C_below HR0_3.out (by repeat (first | (with_reducible first | exact HB.out | apply uL | apply uE | apply uK | refine uM ?_ GE262.out | refine uM ?_ GE273.out) | exact HB.out))); (case side2 => exact HC0_3.out); rintro e w25 ⟨v278, v281, rfl, ho0, ho1, hb⟩; have HO279 := uD (Kd.R_lower (Kd.R_new' ho0 (Kd.Q_lt (by (with_reducible repeat (first | apply Kd.Q_alloc | apply Kd.Q_drewN | apply Kd.Q_drew)); exact (Kd.Q_mono (Kd.Q_far (p := ⟨gb273, 3, none⟩) (Kd.Q_far (p := ⟨gb273, 2, none⟩) (Kd.Q_far (p := ⟨gb273, 1, none⟩) (Kd.Q_far (p := ⟨gb273, 0, none⟩) (Kd.Q_types HO269.out BK273.out (by decide)) (fun _ hk => hk.2) (.int .i64 t264)) (fun _ hk => hk.2) (.int .i64 t265)) (fun _ hk => hk.2) (.bool t266)) (fun _ hk => hk.2) (.slice Ao23 t267.length co23)) (fun _ h_ => h_.1))))) (uN (by repeat (first | (with_reducible first | exact HB.out | apply uL | apply uE | apply uK | refine uM ?_ GE262.out | refine uM ?_ GE273.out) | exact HB.out)))); replace HO269 := uD (Kd.Q_elder' (by (with_reducible repeat (first | apply Kd.Q_alloc | apply Kd.Q_drewN | apply Kd.Q_drew)); exact (Kd.Q_mono (Kd.Q_far (p := ⟨gb273, 3, none⟩) (Kd.Q_far (p := ⟨gb273, 2, none⟩) (Kd.Q_far (p := ⟨gb273, 1, none⟩) (Kd.Q_far (p := ⟨gb273, 0, none⟩) (Kd.Q_types HO269.out BK273.out (by decide)) (fun _ hk => hk.2) (.int .i64 t264)) (fun _ hk => hk.2) (.int .i64 t265)) (fun _ hk => hk.2) (.bool t266)) (fun _ hk => hk.2) (.slice Ao23 t267.length co23)) (fun _ h_ => h_.1))) (Kd.R_base ho0) hb); have HO282 := uD (Kd.R_lower (Kd.R_new' ho1 (Kd.R_lt (by (with_reducible repeat (first | apply uU | apply uS | apply uT)); exact (uX (uV (p := ⟨gb273, 3, none⟩) (uV (p := ⟨gb273, 2, none⟩) (uV (p := ⟨gb273, 1, none⟩) (uV (p := ⟨gb273, 0, none⟩) (uW HO272.out BK273.out (by decide)) (fun _ hk => hk.2) (.int .i64 t264)) (fun _ hk => hk.2) (.int .i64 t265)) (fun _ hk => hk.2) (.bool t266)) (fun _ hk => hk.2) (.slice Ao23 t267.length co23)) (fun _ h_ => h_.1))))) (uN (by repeat (first | (with_reducible first | exact HB.out | apply uL | apply uE | apply uK | refine uM ?_ GE262.out | refine uM ?_ GE273.out) | exact HB.out)))); replace HO272 := uD (Kd.R_elder' (by (with_reducible repeat (first | apply uU | apply uS | apply uT)); exact (uX (uV (p := ⟨gb273, 3, none⟩) (uV (p := ⟨gb273, 2, none⟩) (uV (p := ⟨gb273, 1, none⟩) (uV (p := ⟨gb273, 0, none⟩) (uW HO272.out BK273.out (by decide)) (fun _ hk => hk.2) (.int .i64 t264)) (fun _ hk => hk.2) (.int .i64 t265)) (fun _ hk => hk.2) (.bool t266)) (fun _ hk => hk.2) (.slice Ao23 t267.length co23)) (fun _ h_ => h_.1))) (Kd.R_base ho1) hb); replace BK262 := uD (blk_below (g := gb262) (o := .cells #[.int .i64 a0_0, .int .i64 a0_1, .bool a0_2, .slice A0_3 l0_3.length c0_3] 29 (0, 0)) (by (with_reducible repeat (first | refine uH ?_ _ | refine uJ ?_ | refine uG ?_ _)); refine uQ ?_ NB262_273.out _; (with_reducible repeat (first | refine uH ?_ _ | refine uJ ?_ | refine uG ?_ _)); refine uQ ?_ NB262_273.out _; (with_reducible repeat (first | refine uH ?_ _ | refine uJ ?_ | refine uG ?_ _)); refine uQ ?_ NB262_273.out _; (with_reducible repeat (first | refine uH ?_ _ | refine uJ ?_ | refine uG ?_ _)); refine uQ ?_ NB262_273.out _; (with_reducible repeat (first | refine uH ?_ _ | refine uJ ?_ | refine uG ?_ _)); exact BK262.out) hb); replace BK273 := uD (blk_below (g := gb273) (o := .cells #[.int .i64 t264, .int .i64 t265, .bool t266, .slice Ao23 t267.length co23] 29 (0, 0)) (by (with_reducible repeat (first | refine uH ?_ _ | refine uJ ?_ | refine uG ?_ _)); refine uP (cs := #[.int .i64 t264, .int .i64 t265, .bool t266, .slice none 0 0]) ?_ 3 _ rfl; (with_reducible repeat (first | refine uH ?_ _ | refine uJ ?_ | refine uG ?_ _)); refine uP (cs := #[.int .i64 t264, .int .i64 t265, .bool false, .slice none 0 0]) ?_ 2 _ rfl; (with_reducible repeat (first | refine uH ?_ _ | refine uJ ?_ | refine uG ?_ _)); refine uP (cs := #[.int .i64 t264, .int .i64 0, .bool false, .slice none 0 0]) ?_ 1 _ rfl; (with_reducible repeat (first | refine uH ?_ _ | refine uJ ?_ | refine uG ?_ _)); refine uP (cs := #[.int .i64 0, .int .i64 0, .bool false, .slice none 0 0]) ?_ 0 _ rfl; (with_reducible repeat (first | refine uH ?_ _ | refine uJ ?_ | refine uG ?_ _)); exact BK273.out) hb); replace HB := uD (uO (by repeat (first | (with_reducible first | exact HB.out | apply uL | apply uE | apply uK | refine uM ?_ GE262.out | refine uM ?_ GE273.out) | exact HB.out)) hb); (try clear hb); (try clear hb2); (try clear hk); (try clear hi); (try clear ho0); (try clear ho1)) | ((with_reducible refine gate_dst (N := 7) rfl ?_); (try (refine gate_guard (by rfl) ?_; dsimp only)); refine box_event ?hg (N := 7) ?hd (cs := #[.int .i64 0, .int .i64 0, .bool false, .slice none 0 0]) (t := 29) ?hr ?_; (case hd => rfl); (case hg => rfl); (case hr => first | (go_simp; done) | (go_simp; rfl)); intro gb283 hg w26 hbox hb; replace HO269 := uD (Kd.Q_below (by (with_reducible repeat (first | apply Kd.Q_alloc | apply Kd.Q_drewN | apply Kd.Q_drew)); exact HO269.out) hb); replace HO272 := uD (Kd.R_below (by (with_reducible repeat (first | apply uU | apply uS | apply uT)); exact HO272.out) hb); replace HO279 := uD (Kd.R_below (by (with_reducible repeat (first | apply uU | apply uS | apply uT)); exact HO279.out) hb); replace HO282 := uD (Kd.R_below (by (with_reducible repeat (first | apply uU | apply uS | apply uT)); exact HO282.out) hb); have BK283 := uD (hbox); have GW283 := uD ((by rw [hg]; exact (uN (by repeat (first | (with_reducible first | exact HB.out | apply uL | apply uE | apply uK | refine uM ?_ GE262.out | refine uM ?_ GE273.out) | exact HB.out))) : w.heap.size ≤ gb283)); have GE283 := uD ((by rw [hg]; exact (uN (by repeat (first | (with_reducible first | exact HB.out | apply uL | apply uE | apply uK | refine uM ?_ GE262.out | refine uM ?_ GE273.out) | exact HB.out))) : w.heap.size ≤ gb283)); replace HB := uD (uO (by repeat (first | (with_reducible first | exact HB.out | apply uL | apply uE | apply uK | refine uM ?_ GE262.out | refine uM ?_ GE273.out) | exact HB.out)) hb); have NB262_283 := uD ((by rw [hg]; exact Nat.ne_of_lt (blk_lt (g := gb262) (o := .cells #[.int .i64 a0_0, .int .i64 a0_1, .bool a0_2, .slice A0_3 l0_3.length c0_3] 29 (0, 0)) (by (with_reducible repeat (first | refine uH ?_ _ | refine uJ ?_ | refine uG ?_ _)); exact BK262.out)) : gb262 ≠ gb283)); have NB283_262 := uD ((by rw [hg]; exact Nat.ne_of_gt (blk_lt (g := gb262) (o := .cells #[.int .i64 a0_0, .int .i64 a0_1, .bool a0_2, .slice A0_3 l0_3.length c0_3] 29 (0, 0)) (by (with_reducible repeat (first | refine uH ?_ _ | refine uJ ?_ | refine uG ?_ _)); exact BK262.out)) : gb283 ≠ gb262)); replace BK262 := uD (blk_below (g := gb262) (o := .cells #[.int .i64 a0_0, .int .i64 a0_1, .bool a0_2, .slice A0_3 l0_3.length c0_3] 29 (0, 0)) (by (with_reducible repeat (first | refine uH ?_ _ | refine uJ ?_ | refine uG ?_ _)); exact BK262.out) hb); have NB273_283 := uD ((by rw [hg]; exact Nat.ne_of_lt (blk_lt (g := gb273) (o := .cells #[.int .i64 t264, .int .i64 t265, .bool t266, .slice Ao23 t267.length co23] 29 (0, 0)) (by (with_reducible repeat (first | refine uH ?_ _ | refine uJ ?_ | refine uG ?_ _)); exact BK273.out)) : gb273 ≠ gb283)); have NB283_273 := uD ((by rw [hg]; exact Nat.ne_of_gt (blk_lt (g := gb273) (o := .cells #[.int .i64 t264, .int .i64 t265, .bool t266, .slice Ao23 t267.length co23] 29 (0, 0)) (by (with_reducible repeat (first | refine uH ?_ _ | refine uJ ?_ | refine uG ?_ _)); exact BK273.out)) : gb283 ≠ gb273)); replace BK273 := uD (blk_below (g := gb273) (o := .cells #[.int .i64 t264, .int .i64 t265, .bool t266, .slice Ao23 t267.length co23] 29 (0, 0)) (by (with_reducible repeat (first | refine uH ?_ _ | refine uJ ?_ | refine uG ?_ _)); exact BK273.out) hb); clear hb hbox hg; have hnb27 := NB283_262.out; have hnc27 := NB262_283.out; have hnb28 := NB283_273.out; have hnc28 := NB273_283.out; have hcz29_0 : w26.cell? ⟨gb283, 0, none⟩ = some (.int .i64 0) := (uF BK283.out 0).trans rfl; have hcz29_1 : w26.cell? ⟨gb283, 1, none⟩ = some (.int .i64 0) := (uF BK283.out 1).trans rfl; have hcz29_2 : w26.cell? ⟨gb283, 2, none⟩ = some (.bool false) := (uF BK283.out 2).trans rfl; have hcz29_3 : w26.cell? ⟨gb283, 3, none⟩ = some (.slice none 0 0) := (uF BK283.out 3).trans rfl; have hfz29_0 := uI BK283.out 0; have hfz29_1 := uI BK283.out 1; have hfz29_2 := uI BK283.out 2; have hfz29_3 := uI BK283.out 3; obtain ⟨Ao30, co30, eo30⟩ := Kd.R_slice HO279.out; subst eo30))
    repeat (go_quiet (first | (go_at_call 35; (with_reducible refine (impl_Run.calls kj2 a0_0 a0_1 a0_2 _ _ l0_3 a1 t264 t265 t266 t267 t270 _ ?side1 ?side2 A15.out).mono ?_); (case side1 => repeat (first | exact (Kd.C_below HR0_3.out HB.out) | (with_reducible refine Kd.C_alloc ?_ _) | (with_reducible refine Kd.C_drewN ?_ _) | (with_reducible refine Kd.C_drew ?_))); (case side2 => exact HC0_3.out); rintro e w19 ⟨v268, v271, rfl, ho0, ho1, hb⟩; have HO269 := uD (Kd.Q_lower ho0 (uN (by repeat (first | (with_reducible first | exact HB.out | apply uL | apply uE | apply uK | refine uM ?_ GE262.out) | exact HB.out)))); have HO272 := uD (Kd.R_lower ho1 (uN (by repeat (first | (with_reducible first | exact HB.out | apply uL | apply uE | apply uK | refine uM ?_ GE262.out) | exact HB.out)))); replace BK262 := uD (blk_below (g := gb262) (o := .cells #[.int .i64 a0_0, .int .i64 a0_1, .bool a0_2, .slice A0_3 l0_3.length c0_3] 29 (0, 0)) (by (with_reducible repeat (first | refine uH ?_ _ | refine uJ ?_ | refine uG ?_ _)); exact BK262.out) hb); replace HB := uD (uO (by repeat (first | (with_reducible first | exact HB.out | apply uL | apply uE | apply uK | refine uM ?_ GE262.out) | exact HB.out)) hb); (try clear hb); (try clear hb2); (try clear hk); (try clear hi); (try clear ho0); (try clear ho1)) | ((with_reducible refine gate_dst (N := 5) rfl ?_); (try (refine gate_guard (by rfl) ?_; dsimp only)); refine box_event ?hg (N := 5) ?hd (cs := #[.int .i64 0, .int .i64 0, .bool false, .slice none 0 0]) (t := 29) ?hr ?_; (case hd => rfl); (case hg => rfl); (case hr => first | (go_simp; done) | (go_simp; rfl)); intro gb273 hg w20 hbox hb; replace HO269 := uD (Kd.Q_below (by (with_reducible repeat (first | apply Kd.Q_alloc | apply Kd.Q_drewN | apply Kd.Q_drew)); exact HO269.out) hb); replace HO272 := uD (Kd.R_below (by (with_reducible repeat (first | apply uU | apply uS | apply uT)); exact HO272.out) hb); have BK273 := uD (hbox); have GW273 := uD ((by rw [hg]; exact (uN (by repeat (first | (with_reducible first | exact HB.out | apply uL | apply uE | apply uK | refine uM ?_ GE262.out) | exact HB.out))) : w.heap.size ≤ gb273)); have GE273 := uD ((by rw [hg]; exact (uN (by repeat (first | (with_reducible first | exact HB.out | apply uL | apply uE | apply uK | refine uM ?_ GE262.out) | exact HB.out))) : w.heap.size ≤ gb273)); replace HB := uD (uO (by repeat (first | (with_reducible first | exact HB.out | apply uL | apply uE | apply uK | refine uM ?_ GE262.out) | exact HB.out)) hb); have NB262_273 := uD ((by rw [hg]; exact Nat.ne_of_lt (blk_lt (g := gb262) (o := .cells #[.int .i64 a0_0, .int .i64 a0_1, .bool a0_2, .slice A0_3 l0_3.length c0_3] 29 (0, 0)) (by (with_reducible repeat (first | refine uH ?_ _ | refine uJ ?_ | refine uG ?_ _)); exact BK262.out)) : gb262 ≠ gb273)); have NB273_262 := uD ((by rw [hg]; exact Nat.ne_of_gt (blk_lt (g := gb262) (o := .cells #[.int .i64 a0_0, .int .i64 a0_1, .bool a0_2, .slice A0_3 l0_3.length c0_3] 29 (0, 0)) (by (with_reducible repeat (first | refine uH ?_ _ | refine uJ ?_ | refine uG ?_ _)); exact BK262.out)) : gb273 ≠ gb262)); replace BK262 := uD (blk_below (g := gb262) (o := .cells #[.int .i64 a0_0, .int .i64 a0_1, .bool a0_2, .slice A0_3 l0_3.length c0_3] 29 (0, 0)) (by (with_reducible repeat (first | refine uH ?_ _ | refine uJ ?_ | refine uG ?_ _)); exact BK262.out) hb); clear hb hbox hg; have hnb21 := NB273_262.out; have hnc21 := NB262_273.out; have hcz22_0 : w20.cell? ⟨gb273, 0, none⟩ = some (.int .i64 0) := (uF BK273.out 0).trans rfl; have hcz22_1 : w20.cell? ⟨gb273, 1, none⟩ = some (.int .i64 0) := (uF BK273.out 1).trans rfl; have hcz22_2 : w20.cell? ⟨gb273, 2, none⟩ = some (.bool false) := (uF BK273.out 2).trans rfl; have hcz22_3 : w20.cell? ⟨gb273, 3, none⟩ = some (.slice none 0 0) := (uF BK273.out 3).trans rfl; have hfz22_0 := uI BK273.out 0; have hfz22_1 := uI BK273.out 1; have hfz22_2 := uI BK273.out 2; have hfz22_3 := uI BK273.out 3; obtain ⟨Ao23, co23, eo23, _⟩ := Kd.Q_slice HO269.out; subst eo23; have hcz24_0 : w20.cell? ⟨gb262, 0, none⟩ = some (.int .i64 a0_0) := (uF BK262.out 0).trans rfl; have hcz24_1 : w20.cell? ⟨gb262, 1, none⟩ = some (.int .i64 a0_1) := (uF BK262.out 1).trans rfl; have hcz24_2 : w20.cell? ⟨gb262, 2, none⟩ = some (.bool a0_2) := (uF BK262.out 2).trans rfl; have hcz24_3 : w20.cell? ⟨gb262, 3, none⟩ = some (.slice A0_3 l0_3.length c0_3) := (uF BK262.out 3).trans rfl; have hfz24_0 := uI BK262.out 0; have hfz24_1 := uI BK262.out 1; have hfz24_2 := uI BK262.out 2; have hfz24_3 := uI BK262.out 3) | (go_at_call 34; (with_reducible refine (spec_Run.calls kj2 a0_0 a0_1 a0_2 _ _ l0_3 a1 t274 t275 t276 t277 t280 _ ?side1 ?side2 A16.out).mono ?_); (case side1 => exact Kd.C_below HR0_3.out (by repeat (first | (with_reducible first | exact HB.out | apply uL | apply uE | apply uK | refine uM ?_ GE262.out | refine uM ?_ GE273.out) | exact HB.out))); (case side2 => exact HC0_3.out); rintro e w25 ⟨v278, v281, rfl, ho0, ho1, hb⟩; have HO279 := uD (Kd.R_lower (Kd.R_new' ho0 (Kd.Q_lt (by (with_reducible repeat (first | apply Kd.Q_alloc | apply Kd.Q_drewN | apply Kd.Q_drew)); exact (Kd.Q_mono (Kd.Q_far (p := ⟨gb273, 3, none⟩) (Kd.Q_far (p := ⟨gb273, 2, none⟩) (Kd.Q_far (p := ⟨gb273, 1, none⟩) (Kd.Q_far (p := ⟨gb273, 0, none⟩) (Kd.Q_types HO269.out BK273.out (by decide)) (fun _ hk => hk.2) (.int .i64 t264)) (fun _ hk => hk.2) (.int .i64 t265)) (fun _ hk => hk.2) (.bool t266)) (fun _ hk => hk.2) (.slice Ao23 t267.length co23)) (fun _ h_ => h_.1))))) (uN (by repeat (first | (with_reducible first | exact HB.out | apply uL | apply uE | apply uK | refine uM ?_ GE262.out | refine uM ?_ GE273.out) | exact HB.out)))); replace HO269 := uD (Kd.Q_elder' (by (with_reducible repeat (first | apply Kd.Q_alloc | apply Kd.Q_drewN | apply Kd.Q_drew)); exact (Kd.Q_mono (Kd.Q_far (p := ⟨gb273, 3, none⟩) (Kd.Q_far (p := ⟨gb273, 2, none⟩) (Kd.Q_far (p := ⟨gb273, 1, none⟩) (Kd.Q_far (p := ⟨gb273, 0, none⟩) (Kd.Q_types HO269.out BK273.out (by decide)) (fun _ hk => hk.2) (.int .i64 t264)) (fun _ hk => hk.2) (.int .i64 t265)) (fun _ hk => hk.2) (.bool t266)) (fun _ hk => hk.2) (.slice Ao23 t267.length co23)) (fun _ h_ => h_.1))) (Kd.R_base ho0) hb); have HO282 := uD (Kd.R_lower (Kd.R_new' ho1 (Kd.R_lt (by (with_reducible repeat (first | apply uU | apply uS | apply uT)); exact (uX (uV (p := ⟨gb273, 3, none⟩) (uV (p := ⟨gb273, 2, none⟩) (uV (p := ⟨gb273, 1, none⟩) (uV (p := ⟨gb273, 0, none⟩) (uW HO272.out BK273.out (by decide)) (fun _ hk => hk.2) (.int .i64 t264)) (fun _ hk => hk.2) (.int .i64 t265)) (fun _ hk => hk.2) (.bool t266)) (fun _ hk => hk.2) (.slice Ao23 t267.length co23)) (fun _ h_ => h_.1))))) (uN (by repeat (first | (with_reducible first | exact HB.out | apply uL | apply uE | apply uK | refine uM ?_ GE262.out | refine uM ?_ GE273.out) | exact HB.out)))); replace HO272 := uD (Kd.R_elder' (by (with_reducible repeat (first | apply uU | apply uS | apply uT)); exact (uX (uV (p := ⟨gb273, 3, none⟩) (uV (p := ⟨gb273, 2, none⟩) (uV (p := ⟨gb273, 1, none⟩) (uV (p := ⟨gb273, 0, none⟩) (uW HO272.out BK273.out (by decide)) (fun _ hk => hk.2) (.int .i64 t264)) (fun _ hk => hk.2) (.int .i64 t265)) (fun _ hk => hk.2) (.bool t266)) (fun _ hk => hk.2) (.slice Ao23 t267.length co23)) (fun _ h_ => h_.1))) (Kd.R_base ho1) hb); replace BK262 := uD (blk_below (g := gb262) (o := .cells #[.int .i64 a0_0, .int .i64 a0_1, .bool a0_2, .slice A0_3 l0_3.length c0_3] 29 (0, 0)) (by (with_reducible repeat (first | refine uH ?_ _ | refine uJ ?_ | refine uG ?_ _)); refine uQ ?_ NB262_273.out _; (with_reducible repeat (first | refine uH ?_ _ | refine uJ ?_ | refine uG ?_ _)); refine uQ ?_ NB262_273.out _; (with_reducible repeat (first | refine uH ?_ _ | refine uJ ?_ | refine uG ?_ _)); refine uQ ?_ NB262_273.out _; (with_reducible repeat (first | refine uH ?_ _ | refine uJ ?_ | refine uG ?_ _)); refine uQ ?_ NB262_273.out _; (with_reducible repeat (first | refine uH ?_ _ | refine uJ ?_ | refine uG ?_ _)); exact BK262.out) hb); replace BK273 := uD (blk_below (g := gb273) (o := .cells #[.int .i64 t264, .int .i64 t265, .bool t266, .slice Ao23 t267.length co23] 29 (0, 0)) (by (with_reducible repeat (first | refine uH ?_ _ | refine uJ ?_ | refine uG ?_ _)); refine uP (cs := #[.int .i64 t264, .int .i64 t265, .bool t266, .slice none 0 0]) ?_ 3 _ rfl; (with_reducible repeat (first | refine uH ?_ _ | refine uJ ?_ | refine uG ?_ _)); refine uP (cs := #[.int .i64 t264, .int .i64 t265, .bool false, .slice none 0 0]) ?_ 2 _ rfl; (with_reducible repeat (first | refine uH ?_ _ | refine uJ ?_ | refine uG ?_ _)); refine uP (cs := #[.int .i64 t264, .int .i64 0, .bool false, .slice none 0 0]) ?_ 1 _ rfl; (with_reducible repeat (first | refine uH ?_ _ | refine uJ ?_ | refine uG ?_ _)); refine uP (cs := #[.int .i64 0, .int .i64 0, .bool false, .slice none 0 0]) ?_ 0 _ rfl; (with_reducible repeat (first | refine uH ?_ _ | refine uJ ?_ | refine uG ?_ _)); exact BK273.out) hb); replace HB := uD (uO (by repeat (first | (with_reducible first | exact HB.out | apply uL | apply uE | apply uK | refine uM ?_ GE262.out | refine uM ?_ GE273.out) | exact HB.out)) hb); (try clear hb); (try clear hb2); (try clear hk); (try clear hi); (try clear ho0); (try clear ho1)) | ((with_reducible refine gate_dst (N := 7) rfl ?_); (try (refine gate_guard (by rfl) ?_; dsimp only)); refine box_event ?hg (N := 7) ?hd (cs := #[.int .i64 0, .int .i64 0, .bool false, .slice none 0 0]) (t := 29) ?hr ?_; (case hd => rfl); (case hg => rfl); (case hr => first | (go_simp; done) | (go_simp; rfl)); intro gb283 hg w26 hbox hb; replace HO269 := uD (Kd.Q_below (by (with_reducible repeat (first | apply Kd.Q_alloc | apply Kd.Q_drewN | apply Kd.Q_drew)); exact HO269.out) hb); replace HO272 := uD (Kd.R_below (by (with_reducible repeat (first | apply uU | apply uS | apply uT)); exact HO272.out) hb); replace HO279 := uD (Kd.R_below (by (with_reducible repeat (first | apply uU | apply uS | apply uT)); exact HO279.out) hb); replace HO282 := uD (Kd.R_below (by (with_reducible repeat (first | apply uU | apply uS | apply uT)); exact HO282.out) hb); have BK283 := uD (hbox); have GW283 := uD ((by rw [hg]; exact (uN (by repeat (first | (with_reducible first | exact HB.out | apply uL | apply uE | apply uK | refine uM ?_ GE262.out | refine uM ?_ GE273.out) | exact HB.out))) : w.heap.size ≤ gb283)); have GE283 := uD ((by rw [hg]; exact (uN (by repeat (first | (with_reducible first | exact HB.out | apply uL | apply uE | apply uK | refine uM ?_ GE262.out | refine uM ?_ GE273.out) | exact HB.out))) : w.heap.size ≤ gb283)); replace HB := uD (uO (by repeat (first | (with_reducible first | exact HB.out | apply uL | apply uE | apply uK | refine uM ?_ GE262.out | refine uM ?_ GE273.out) | exact HB.out)) hb); have NB262_283 := uD ((by rw [hg]; exact Nat.ne_of_lt (blk_lt (g := gb262) (o := .cells #[.int .i64 a0_0, .int .i64 a0_1, .bool a0_2, .slice A0_3 l0_3.length c0_3] 29 (0, 0)) (by (with_reducible repeat (first | refine uH ?_ _ | refine uJ ?_ | refine uG ?_ _)); exact BK262.out)) : gb262 ≠ gb283)); have NB283_262 := uD ((by rw [hg]; exact Nat.ne_of_gt (blk_lt (g := gb262) (o := .cells #[.int .i64 a0_0, .int .i64 a0_1, .bool a0_2, .slice A0_3 l0_3.length c0_3] 29 (0, 0)) (by (with_reducible repeat (first | refine uH ?_ _ | refine uJ ?_ | refine uG ?_ _)); exact BK262.out)) : gb283 ≠ gb262)); replace BK262 := uD (blk_below (g := gb262) (o := .cells #[.int .i64 a0_0, .int .i64 a0_1, .bool a0_2, .slice A0_3 l0_3.length c0_3] 29 (0, 0)) (by (with_reducible repeat (first | refine uH ?_ _ | refine uJ ?_ | refine uG ?_ _)); exact BK262.out) hb); have NB273_283 := uD ((by rw [hg]; exact Nat.ne_of_lt (blk_lt (g := gb273) (o := .cells #[.int .i64 t264, .int .i64 t265, .bool t266, .slice Ao23 t267.length co23] 29 (0, 0)) (by (with_reducible repeat (first | refine uH ?_ _ | refine uJ ?_ | refine uG ?_ _)); exact BK273.out)) : gb273 ≠ gb283)); have NB283_273 := uD ((by rw [hg]; exact Nat.ne_of_gt (blk_lt (g := gb273) (o := .cells #[.int .i64 t264, .int .i64 t265, .bool t266, .slice Ao23 t267.length co23] 29 (0, 0)) (by (with_reducible repeat (first | refine uH ?_ _ | refine uJ ?_ | refine uG ?_ _)); exact BK273.out)) : gb283 ≠ gb273)); replace BK273 := uD (blk_below (g := gb273) (o := .cells #[.int .i64 t264, .int .i64 t265, .bool t266, .slice Ao23 t267.length co23] 29 (0, 0)) (by (with_reducible repeat (first | refine uH ?_ _ | refine uJ ?_ | refine uG ?_ _)); exact BK273.out) hb); clear hb hbox hg; have hnb27 := NB283_262.out; have hnc27 := NB262_283.out; have hnb28 := NB283_273.out; have hnc28 := NB273_283.out; have hcz29_0 : w26.cell? ⟨gb283, 0, none⟩ = some (.int .i64 0) := (uF BK283.out 0).trans rfl; have hcz29_1 : w26.cell? ⟨gb283, 1, none⟩ = some (.int .i64 0) := (uF BK283.out 1).trans rfl; have hcz29_2 : w26.cell? ⟨gb283, 2, none⟩ = some (.bool false) := (uF BK283.out 2).trans rfl; have hcz29_3 : w26.cell? ⟨gb283, 3, none⟩ = some (.slice none 0 0) := (uF BK283.out 3).trans rfl; have hfz29_0 := uI BK283.out 0; have hfz29_1 := uI BK283.out 1; have hfz29_2 := uI BK283.out 2; have hfz29_3 := uI BK283.out 3; obtain ⟨Ao30, co30, eo30⟩ := Kd.R_slice HO279.out; subst eo30)); go_upto_region 5 with (first | (go_at_call 35; (with_reducible refine (impl_Run.calls kj2 a0_0 a0_1 a0_2 _ _ l0_3 a1 t264 t265 t266 t267 t270 _ ?side1 ?side2 A15.out).mono ?_); (case side1 => repeat (first | exact (Kd.C_below HR0_3.out HB.out) | (with_reducible refine Kd.C_alloc ?_ _) | (with_reducible refine Kd.C_drewN ?_ _) | (with_reducible refine Kd.C_drew ?_))); (case side2 => exact HC0_3.out); rintro e w19 ⟨v268, v271, rfl, ho0, ho1, hb⟩; have HO269 := uD (Kd.Q_lower ho0 (uN (by repeat (first | (with_reducible first | exact HB.out | apply uL | apply uE | apply uK | refine uM ?_ GE262.out) | exact HB.out)))); have HO272 := uD (Kd.R_lower ho1 (uN (by repeat (first | (with_reducible first | exact HB.out | apply uL | apply uE | apply uK | refine uM ?_ GE262.out) | exact HB.out)))); replace BK262 := uD (blk_below (g := gb262) (o := .cells #[.int .i64 a0_0, .int .i64 a0_1, .bool a0_2, .slice A0_3 l0_3.length c0_3] 29 (0, 0)) (by (with_reducible repeat (first | refine uH ?_ _ | refine uJ ?_ | refine uG ?_ _)); exact BK262.out) hb); replace HB := uD (uO (by repeat (first | (with_reducible first | exact HB.out | apply uL | apply uE | apply uK | refine uM ?_ GE262.out) | exact HB.out)) hb); (try clear hb); (try clear hb2); (try clear hk); (try clear hi); (try clear ho0); (try clear ho1)) | ((with_reducible refine gate_dst (N := 5) rfl ?_); (try (refine gate_guard (by rfl) ?_; dsimp only)); refine box_event ?hg (N := 5) ?hd (cs := #[.int .i64 0, .int .i64 0, .bool false, .slice none 0 0]) (t := 29) ?hr ?_; (case hd => rfl); (case hg => rfl); (case hr => first | (go_simp; done) | (go_simp; rfl)); intro gb273 hg w20 hbox hb; replace HO269 := uD (Kd.Q_below (by (with_reducible repeat (first | apply Kd.Q_alloc | apply Kd.Q_drewN | apply Kd.Q_drew)); exact HO269.out) hb); replace HO272 := uD (Kd.R_below (by (with_reducible repeat (first | apply uU | apply uS | apply uT)); exact HO272.out) hb); have BK273 := uD (hbox); have GW273 := uD ((by rw [hg]; exact (uN (by repeat (first | (with_reducible first | exact HB.out | apply uL | apply uE | apply uK | refine uM ?_ GE262.out) | exact HB.out))) : w.heap.size ≤ gb273)); have GE273 := uD ((by rw [hg]; exact (uN (by repeat (first | (with_reducible first | exact HB.out | apply uL | apply uE | apply uK | refine uM ?_ GE262.out) | exact HB.out))) : w.heap.size ≤ gb273)); replace HB := uD (uO (by repeat (first | (with_reducible first | exact HB.out | apply uL | apply uE | apply uK | refine uM ?_ GE262.out) | exact HB.out)) hb); have NB262_273 := uD ((by rw [hg]; exact Nat.ne_of_lt (blk_lt (g := gb262) (o := .cells #[.int .i64 a0_0, .int .i64 a0_1, .bool a0_2, .slice A0_3 l0_3.length c0_3] 29 (0, 0)) (by (with_reducible repeat (first | refine uH ?_ _ | refine uJ ?_ | refine uG ?_ _)); exact BK262.out)) : gb262 ≠ gb273)); have NB273_262 := uD ((by rw [hg]; exact Nat.ne_of_gt (blk_lt (g := gb262) (o := .cells #[.int .i64 a0_0, .int .i64 a0_1, .bool a0_2, .slice A0_3 l0_3.length c0_3] 29 (0, 0)) (by (with_reducible repeat (first | refine uH ?_ _ | refine uJ ?_ | refine uG ?_ _)); exact BK262.out)) : gb273 ≠ gb262)); replace BK262 := uD (blk_below (g := gb262) (o := .cells #[.int .i64 a0_0, .int .i64 a0_1, .bool a0_2, .slice A0_3 l0_3.length c0_3] 29 (0, 0)) (by (with_reducible repeat (first | refine uH ?_ _ | refine uJ ?_ | refine uG ?_ _)); exact BK262.out) hb); clear hb hbox hg; have hnb21 := NB273_262.out; have hnc21 := NB262_273.out; have hcz22_0 : w20.cell? ⟨gb273, 0, none⟩ = some (.int .i64 0) := (uF BK273.out 0).trans rfl; have hcz22_1 : w20.cell? ⟨gb273, 1, none⟩ = some (.int .i64 0) := (uF BK273.out 1).trans rfl; have hcz22_2 : w20.cell? ⟨gb273, 2, none⟩ = some (.bool false) := (uF BK273.out 2).trans rfl; have hcz22_3 : w20.cell? ⟨gb273, 3, none⟩ = some (.slice none 0 0) := (uF BK273.out 3).trans rfl; have hfz22_0 := uI BK273.out 0; have hfz22_1 := uI BK273.out 1; have hfz22_2 := uI BK273.out 2; have hfz22_3 := uI BK273.out 3; obtain ⟨Ao23, co23, eo23, _⟩ := Kd.Q_slice HO269.out; subst eo23; have hcz24_0 : w20.cell? ⟨gb262, 0, none⟩ = some (.int .i64 a0_0) := (uF BK262.out 0).trans rfl; have hcz24_1 : w20.cell? ⟨gb262, 1, none⟩ = some (.int .i64 a0_1) := (uF BK262.out 1).trans rfl; have hcz24_2 : w20.cell? ⟨gb262, 2, none⟩ = some (.bool a0_2) := (uF BK262.out 2).trans rfl; have hcz24_3 : w20.cell? ⟨gb262, 3, none⟩ = some (.slice A0_3 l0_3.length c0_3) := (uF BK262.out 3).trans rfl; have hfz24_0 := uI BK262.out 0; have hfz24_1 := uI BK262.out 1; have hfz24_2 := uI BK262.out 2; have hfz24_3 := uI BK262.out 3) | (go_at_call 34; (with_reducible refine (spec_Run.calls kj2 a0_0 a0_1 a0_2 _ _ l0_3 a1 t274 t275 t276 t277 t280 _ ?side1 ?side2 A16.out).mono ?_); (case side1 => exact Kd.C_below HR0_3.out (by repeat (first | (with_reducible first | exact HB.out | apply uL | apply uE | apply uK | refine uM ?_ GE262.out | refine uM ?_ GE273.out) | exact HB.out))); (case side2 => exact HC0_3.out); rintro e w25 ⟨v278, v281, rfl, ho0, ho1, hb⟩; have HO279 := uD (Kd.R_lower (Kd.R_new' ho0 (Kd.Q_lt (by (with_reducible repeat (first | apply Kd.Q_alloc | apply Kd.Q_drewN | apply Kd.Q_drew)); exact (Kd.Q_mono (Kd.Q_far (p := ⟨gb273, 3, none⟩) (Kd.Q_far (p := ⟨gb273, 2, none⟩) (Kd.Q_far (p := ⟨gb273, 1, none⟩) (Kd.Q_far (p := ⟨gb273, 0, none⟩) (Kd.Q_types HO269.out BK273.out (by decide)) (fun _ hk => hk.2) (.int .i64 t264)) (fun _ hk => hk.2) (.int .i64 t265)) (fun _ hk => hk.2) (.bool t266)) (fun _ hk => hk.2) (.slice Ao23 t267.length co23)) (fun _ h_ => h_.1))))) (uN (by repeat (first | (with_reducible first | exact HB.out | apply uL | apply uE | apply uK | refine uM ?_ GE262.out | refine uM ?_ GE273.out) | exact HB.out)))); replace HO269 := uD (Kd.Q_elder' (by (with_reducible repeat (first | apply Kd.Q_alloc | apply Kd.Q_drewN | apply Kd.Q_drew)); exact (Kd.Q_mono (Kd.Q_far (p := ⟨gb273, 3, none⟩) (Kd.Q_far (p := ⟨gb273, 2, none⟩) (Kd.Q_far (p := ⟨gb273, 1, none⟩) (Kd.Q_far (p := ⟨gb273, 0, none⟩) (Kd.Q_types HO269.out BK273.out (by decide)) (fun _ hk => hk.2) (.int .i64 t264)) (fun _ hk => hk.2) (.int .i64 t265)) (fun _ hk => hk.2) (.bool t266)) (fun _ hk => hk.2) (.slice Ao23 t267.length co23)) (fun _ h_ => h_.1))) (Kd.R_base ho0) hb); have HO282 := uD (Kd.R_lower (Kd.R_new' ho1 (Kd.R_lt (by (with_reducible repeat (first | apply uU | apply uS | apply uT)); exact (uX (uV (p := ⟨gb273, 3, none⟩) (uV (p := ⟨gb273, 2, none⟩) (uV (p := ⟨gb273, 1, none⟩) (uV (p := ⟨gb273, 0, none⟩) (uW HO272.out BK273.out (by decide)) (fun _ hk => hk.2) (.int .i64 t264)) (fun _ hk => hk.2) (.int .i64 t265)) (fun _ hk => hk.2) (.bool t266)) (fun _ hk => hk.2) (.slice Ao23 t267.length co23)) (fun _ h_ => h_.1))))) (uN (by repeat (first | (with_reducible first | exact HB.out | apply uL | apply uE | apply uK | refine uM ?_ GE262.out | refine uM ?_ GE273.out) | exact HB.out)))); replace HO272 := uD (Kd.R_elder' (by (with_reducible repeat (first | apply uU | apply uS | apply uT)); exact (uX (uV (p := ⟨gb273, 3, none⟩) (uV (p := ⟨gb273, 2, none⟩) (uV (p := ⟨gb273, 1, none⟩) (uV (p := ⟨gb273, 0, none⟩) (uW HO272.out BK273.out (by decide)) (fun _ hk => hk.2) (.int .i64 t264)) (fun _ hk => hk.2) (.int .i64 t265)) (fun _ hk => hk.2) (.bool t266)) (fun _ hk => hk.2) (.slice Ao23 t267.length co23)) (fun _ h_ => h_.1))) (Kd.R_base ho1) hb); replace BK262 := uD (blk_below (g := gb262) (o := .cells #[.int .i64 a0_0, .int .i64 a0_1, .bool a0_2, .slice A0_3 l0_3.length c0_3] 29 (0, 0)) (by (with_reducible repeat (first | refine uH ?_ _ | refine uJ ?_ | refine uG ?_ _)); refine uQ ?_ NB262_273.out _; (with_reducible repeat (first | refine uH ?_ _ | refine uJ ?_ | refine uG ?_ _)); refine uQ ?_ NB262_273.out _; (with_reducible repeat (first | refine uH ?_ _ | refine uJ ?_ | refine uG ?_ _)); refine uQ ?_ NB262_273.out _; (with_reducible repeat (first | refine uH ?_ _ | refine uJ ?_ | refine uG ?_ _)); refine uQ ?_ NB262_273.out _; (with_reducible repeat (first | refine uH ?_ _ | refine uJ ?_ | refine uG ?_ _)); exact BK262.out) hb); replace BK273 := uD (blk_below (g := gb273) (o := .cells #[.int .i64 t264, .int .i64 t265, .bool t266, .slice Ao23 t267.length co23] 29 (0, 0)) (by (with_reducible repeat (first | refine uH ?_ _ | refine uJ ?_ | refine uG ?_ _)); refine uP (cs := #[.int .i64 t264, .int .i64 t265, .bool t266, .slice none 0 0]) ?_ 3 _ rfl; (with_reducible repeat (first | refine uH ?_ _ | refine uJ ?_ | refine uG ?_ _)); refine uP (cs := #[.int .i64 t264, .int .i64 t265, .bool false, .slice none 0 0]) ?_ 2 _ rfl; (with_reducible repeat (first | refine uH ?_ _ | refine uJ ?_ | refine uG ?_ _)); refine uP (cs := #[.int .i64 t264, .int .i64 0, .bool false, .slice none 0 0]) ?_ 1 _ rfl; (with_reducible repeat (first | refine uH ?_ _ | refine uJ ?_ | refine uG ?_ _)); refine uP (cs := #[.int .i64 0, .int .i64 0, .bool false, .slice none 0 0]) ?_ 0 _ rfl; (with_reducible repeat (first | refine uH ?_ _ | refine uJ ?_ | refine uG ?_ _)); exact BK273.out) hb); replace HB := uD (uO (by repeat (first | (with_reducible first | exact HB.out | apply uL | apply uE | apply uK | refine uM ?_ GE262.out | refine uM ?_ GE273.out) | exact HB.out)) hb); (try clear hb); (try clear hb2); (try clear hk); (try clear hi); (try clear ho0); (try clear ho1)) | ((with_reducible refine gate_dst (N := 7) rfl ?_); (try (refine gate_guard (by rfl) ?_; dsimp only)); refine box_event ?hg (N := 7) ?hd (cs := #[.int .i64 0, .int .i64 0, .bool false, .slice none 0 0]) (t := 29) ?hr ?_; (case hd => rfl); (case hg => rfl); (case hr => first | (go_simp; done) | (go_simp; rfl)); intro gb283 hg w26 hbox hb; replace HO269 := uD (Kd.Q_below (by (with_reducible repeat (first | apply Kd.Q_alloc | apply Kd.Q_drewN | apply Kd.Q_drew)); exact HO269.out) hb); replace HO272 := uD (Kd.R_below (by (with_reducible repeat (first | apply uU | apply uS | apply uT)); exact HO272.out) hb); replace HO279 := uD (Kd.R_below (by (with_reducible repeat (first | apply uU | apply uS | apply uT)); exact HO279.out) hb); replace HO282 := uD (Kd.R_below (by (with_reducible repeat (first | apply uU | apply uS | apply uT)); exact HO282.out) hb); have BK283 := uD (hbox); have GW283 := uD ((by rw [hg]; exact (uN (by repeat (first | (with_reducible first | exact HB.out | apply uL | apply uE | apply uK | refine uM ?_ GE262.out | refine uM ?_ GE273.out) | exact HB.out))) : w.heap.size ≤ gb283)); have GE283 := uD ((by rw [hg]; exact (uN (by repeat (first | (with_reducible first | exact HB.out | apply uL | apply uE | apply uK | refine uM ?_ GE262.out | refine uM ?_ GE273.out) | exact HB.out))) : w.heap.size ≤ gb283)); replace HB := uD (uO (by repeat (first | (with_reducible first | exact HB.out | apply uL | apply uE | apply uK | refine uM ?_ GE262.out | refine uM ?_ GE273.out) | exact HB.out)) hb); have NB262_283 := uD ((by rw [hg]; exact Nat.ne_of_lt (blk_lt (g := gb262) (o := .cells #[.int .i64 a0_0, .int .i64 a0_1, .bool a0_2, .slice A0_3 l0_3.length c0_3] 29 (0, 0)) (by (with_reducible repeat (first | refine uH ?_ _ | refine uJ ?_ | refine uG ?_ _)); exact BK262.out)) : gb262 ≠ gb283)); have NB283_262 := uD ((by rw [hg]; exact Nat.ne_of_gt (blk_lt (g := gb262) (o := .cells #[.int .i64 a0_0, .int .i64 a0_1, .bool a0_2, .slice A0_3 l0_3.length c0_3] 29 (0, 0)) (by (with_reducible repeat (first | refine uH ?_ _ | refine uJ ?_ | refine uG ?_ _)); exact BK262.out)) : gb283 ≠ gb262)); replace BK262 := uD (blk_below (g := gb262) (o := .cells #[.int .i64 a0_0, .int .i64 a0_1, .bool a0_2, .slice A0_3 l0_3.length c0_3] 29 (0, 0)) (by (with_reducible repeat (first | refine uH ?_ _ | refine uJ ?_ | refine uG ?_ _)); exact BK262.out) hb); have NB273_283 := uD ((by rw [hg]; exact Nat.ne_of_lt (blk_lt (g := gb273) (o := .cells #[.int .i64 t264, .int .i64 t265, .bool t266, .slice Ao23 t267.length co23] 29 (0, 0)) (by (with_reducible repeat (first | refine uH ?_ _ | refine uJ ?_ | refine uG ?_ _)); exact BK273.out)) : gb273 ≠ gb283)); have NB283_273 := uD ((by rw [hg]; exact Nat.ne_of_gt (blk_lt (g := gb273) (o := .cells #[.int .i64 t264, .int .i64 t265, .bool t266, .slice Ao23 t267.length co23] 29 (0, 0)) (by (with_reducible repeat (first | refine uH ?_ _ | refine uJ ?_ | refine uG ?_ _)); exact BK273.out)) : gb283 ≠ gb273)); replace BK273 := uD (blk_below (g := gb273) (o := .cells #[.int .i64 t264, .int .i64 t265, .bool t266, .slice Ao23 t267.length co23] 29 (0, 0)) (by (with_reducible repeat (first | refine uH ?_ _ | refine uJ ?_ | refine uG ?_ _)); exact BK273.out) hb); clear hb hbox hg; have hnb27 := NB283_262.out; have hnc27 := NB262_283.out; have hnb28 := NB283_273.out; have hnc28 := NB273_283.out; have hcz29_0 : w26.cell? ⟨gb283, 0, none⟩ = some (.int .i64 0) := (uF BK283.out 0).trans rfl; have hcz29_1 : w26.cell? ⟨gb283, 1, none⟩ = some (.int .i64 0) := (uF BK283.out 1).trans rfl; have hcz29_2 : w26.cell? ⟨gb283, 2, none⟩ = some (.bool false) := (uF BK283.out 2).trans rfl; have hcz29_3 : w26.cell? ⟨gb283, 3, none⟩ = some (.slice none 0 0) := (uF BK283.out 3).trans rfl; have hfz29_0 := uI BK283.out 0; have hfz29_1 := uI BK283.out 1; have hfz29_2 := uI BK283.out 2; have hfz29_3 := uI BK283.out 3; obtain ⟨Ao30, co30, eo30⟩ := Kd.R_slice HO279.out; subst eo30)))
    (try simp only [uc, uA, uB, uC])
    go_cut [44] (fun v44 wc => ∃ (kq : Nat) (x44_16 : Bool), v44 = .bool x44_16 ∧ Aside0 (laws_FnBeltRuns.j1 kq a1 t270 x44_16 a0_0 a0_1 a0_2 l0_3 t264 t265 t266 t267 = some true) ∧ Aside0 (kq ≤ kj2) ∧ Aside0 (Kd.R k56 56 wc w.heap.size (fun _ => True) v271 t270) ∧ Aside0 (Kd.Q k53 53 wc w.heap.size (fun k_ => some k_ ≠ ((.slice Ao30 t277.length co30) : Value).ownBlock) (.slice Ao23 t267.length co23) t267) ∧ Aside0 (Kd.Q k53 53 wc w.heap.size (fun k_ => some k_ ≠ ((.slice Ao23 t267.length co23) : Value).ownBlock) (.slice Ao30 t277.length co30) t277) ∧ Aside0 (wc.heap[gb262]? = some (.cells #[.int .i64 a0_0, .int .i64 a0_1, .bool a0_2, (.slice A0_3 l0_3.length c0_3)] 29 (0, 0))) ∧ Aside0 (wc.heap[gb273]? = some (.cells #[.int .i64 t264, .int .i64 t265, .bool t266, (.slice Ao23 t267.length co23)] 29 (0, 0))) ∧ Aside0 (wc.heap[gb283]? = some (.cells #[.int .i64 t274, .int .i64 t275, .bool t276, (.slice Ao30 t277.length co30)] 29 (0, 0))) ∧ Aside0 (Below w.heap.size w wc))
    case first =>
     have H := HC17.out
     clear HC17
     replace H := Option.bind_eq_some_iff.mp H
     obtain ⟨t284, A310, H⟩ := H
     replace H : (if t284 = true then ((laws_sameExits.f kj2 t270 t280).bind fun t285 => (laws_FnBeltRuns.j1 kj2 a1 t270 (!t285) a0_0 a0_1 a0_2 l0_3 t264 t265 t266 t267)) else (laws_FnBeltRuns.j1 kj2 a1 t270 true a0_0 a0_1 a0_2 l0_3 t264 t265 t266 t267)) = some true := H
     have A31 := uD A310
     clear A310
     by_cases c32 : t284 = true
     ·subst c32
      have H1 : ((laws_sameExits.f kj2 t270 t280).bind fun t285 => (laws_FnBeltRuns.j1 kj2 a1 t270 (!t285) a0_0 a0_1 a0_2 l0_3 t264 t265 t266 t267)) = some true := by rw [if_pos rfl] at H; first | done | exact H
      clear H
      have H := H1
      clear H1
      replace H := Option.bind_eq_some_iff.mp H
      obtain ⟨t285, A330, H⟩ := H
      replace H : (laws_FnBeltRuns.j1 kj2 a1 t270 (!t285) a0_0 a0_1 a0_2 l0_3 t264 t265 t266 t267) = some true := H
      have A33 := uD A330
      clear A330
      have H' := uD H
      clear H
      have hnb34 := NB273_262.out
      have hnc34 := NB262_273.out
      have hnb35 := NB273_283.out
      have hnc35 := NB283_273.out
      have hcz36_0 : w26.cell? ⟨gb273, 0, none⟩ = some (.int .i64 t264) := (uF BK273.out 0).trans rfl
      have hcz36_1 : w26.cell? ⟨gb273, 1, none⟩ = some (.int .i64 t265) := (uF BK273.out 1).trans rfl
      have hcz36_2 : w26.cell? ⟨gb273, 2, none⟩ = some (.bool t266) := (uF BK273.out 2).trans rfl
      have hcz36_3 : w26.cell? ⟨gb273, 3, none⟩ = some (.slice Ao23 t267.length co23) := (uF BK273.out 3).trans rfl
      have hfz36_0 := uI BK273.out 0
      have hfz36_1 := uI BK273.out 1
      have hfz36_2 := uI BK273.out 2
      have hfz36_3 := uI BK273.out 3
      have hnb37 := NB283_262.out
      have hnc37 := NB262_283.out
      have hcz38_0 : w26.cell? ⟨gb283, 0, none⟩ = some (.int .i64 0) := (uF BK283.out 0).trans rfl
      have hcz38_1 : w26.cell? ⟨gb283, 1, none⟩ = some (.int .i64 0) := (uF BK283.out 1).trans rfl
      have hcz38_2 : w26.cell? ⟨gb283, 2, none⟩ = some (.bool false) := (uF BK283.out 2).trans rfl
      have hcz38_3 : w26.cell? ⟨gb283, 3, none⟩ = some (.slice none 0 0) := (uF BK283.out 3).trans rfl
      have hfz38_0 := uI BK283.out 0
      have hfz38_1 := uI BK283.out 1
      have hfz38_2 := uI BK283.out 2
      have hfz38_3 := uI BK283.out 3
      go_wp2_with (first | (go_at_call 43; (with_reducible refine (laws_sameBelt.calls kj2 t264 t265 t266 _ _ t267 t274 t275 t276 _ _ t277 true _ ?side1 ?side2 ?side3 ?side4 A31.out).mono ?_); (case side1 => refine (Kd.Q_reads' (e := 53) (base := w.heap.size) (ok := fun k_ => (True ∧ some k_ ≠ (.slice Ao30 t277.length co30 : Value).ownBlock)) (n := t267.length) (c := co23) ?_).2.2; exact (by (with_reducible repeat (first | apply Kd.Q_alloc | apply Kd.Q_drewN | apply Kd.Q_drew)); exact (Kd.Q_mono (Kd.Q_far (p := ⟨gb283, 3, none⟩) (Kd.Q_far (p := ⟨gb283, 2, none⟩) (Kd.Q_far (p := ⟨gb283, 1, none⟩) (Kd.Q_far (p := ⟨gb283, 0, none⟩) (Kd.Q_types HO269.out BK283.out (by decide)) (fun _ hk => hk.2) (.int .i64 t274)) (fun _ hk => hk.2) (.int .i64 t275)) (fun _ hk => hk.2) (.bool t276)) (fun _ hk => hk.2) (.slice Ao30 t277.length co30)) (fun _ h_ => h_.1)))); (case side2 => exact (Kd.Q_reads' HO269.out).2.1); (case side3 => refine (Kd.R_reads' (e := 53) (base := w.heap.size) (ok := fun k_ => (True ∧ some k_ ≠ (.slice Ao23 t267.length co23 : Value).ownBlock)) (n := t277.length) (c := co30) ?_).2.2; exact (by (with_reducible repeat (first | apply uU | apply uS | apply uT)); exact (uX (uV (p := ⟨gb283, 3, none⟩) (uV (p := ⟨gb283, 2, none⟩) (uV (p := ⟨gb283, 1, none⟩) (uV (p := ⟨gb283, 0, none⟩) (uW HO279.out BK283.out (by decide)) (fun _ hk => hk.2) (.int .i64 t274)) (fun _ hk => hk.2) (.int .i64 t275)) (fun _ hk => hk.2) (.bool t276)) (fun _ hk => hk.2) (.slice Ao30 t277.length co30)) (fun _ h_ => h_.1)))); (case side4 => exact (Kd.R_reads' HO279.out).2.1); rintro e w39 ⟨rfl, hb⟩; replace HO269 := uD (Kd.Q_below (by (with_reducible repeat (first | apply Kd.Q_alloc | apply Kd.Q_drewN | apply Kd.Q_drew)); exact (Kd.Q_mono (Kd.Q_far (p := ⟨gb283, 3, none⟩) (Kd.Q_far (p := ⟨gb283, 2, none⟩) (Kd.Q_far (p := ⟨gb283, 1, none⟩) (Kd.Q_far (p := ⟨gb283, 0, none⟩) (Kd.Q_types HO269.out BK283.out (by decide)) (fun _ hk => hk.2) (.int .i64 t274)) (fun _ hk => hk.2) (.int .i64 t275)) (fun _ hk => hk.2) (.bool t276)) (fun _ hk => hk.2) (.slice Ao30 t277.length co30)) (fun _ h_ => h_.1))) hb); replace HO272 := uD (Kd.R_below (by (with_reducible repeat (first | apply uU | apply uS | apply uT)); exact (uX (uV (p := ⟨gb283, 3, none⟩) (uV (p := ⟨gb283, 2, none⟩) (uV (p := ⟨gb283, 1, none⟩) (uV (p := ⟨gb283, 0, none⟩) (uW HO272.out BK283.out (by decide)) (fun _ hk => hk.2) (.int .i64 t274)) (fun _ hk => hk.2) (.int .i64 t275)) (fun _ hk => hk.2) (.bool t276)) (fun _ hk => hk.2) (.slice Ao30 t277.length co30)) (fun _ h_ => h_.1))) hb); replace HO279 := uD (Kd.R_below (by (with_reducible repeat (first | apply uU | apply uS | apply uT)); exact (uX (uV (p := ⟨gb283, 3, none⟩) (uV (p := ⟨gb283, 2, none⟩) (uV (p := ⟨gb283, 1, none⟩) (uV (p := ⟨gb283, 0, none⟩) (uW HO279.out BK283.out (by decide)) (fun _ hk => hk.2) (.int .i64 t274)) (fun _ hk => hk.2) (.int .i64 t275)) (fun _ hk => hk.2) (.bool t276)) (fun _ hk => hk.2) (.slice Ao30 t277.length co30)) (fun _ h_ => h_.1))) hb); replace HO282 := uD (Kd.R_below (by (with_reducible repeat (first | apply uU | apply uS | apply uT)); exact (uX (uV (p := ⟨gb283, 3, none⟩) (uV (p := ⟨gb283, 2, none⟩) (uV (p := ⟨gb283, 1, none⟩) (uV (p := ⟨gb283, 0, none⟩) (uW HO282.out BK283.out (by decide)) (fun _ hk => hk.2) (.int .i64 t274)) (fun _ hk => hk.2) (.int .i64 t275)) (fun _ hk => hk.2) (.bool t276)) (fun _ hk => hk.2) (.slice Ao30 t277.length co30)) (fun _ h_ => h_.1))) hb); replace BK262 := uD (blk_below (g := gb262) (o := .cells #[.int .i64 a0_0, .int .i64 a0_1, .bool a0_2, .slice A0_3 l0_3.length c0_3] 29 (0, 0)) (by (with_reducible repeat (first | refine uH ?_ _ | refine uJ ?_ | refine uG ?_ _)); refine uQ ?_ NB262_283.out _; (with_reducible repeat (first | refine uH ?_ _ | refine uJ ?_ | refine uG ?_ _)); refine uQ ?_ NB262_283.out _; (with_reducible repeat (first | refine uH ?_ _ | refine uJ ?_ | refine uG ?_ _)); refine uQ ?_ NB262_283.out _; (with_reducible repeat (first | refine uH ?_ _ | refine uJ ?_ | refine uG ?_ _)); refine uQ ?_ NB262_283.out _; (with_reducible repeat (first | refine uH ?_ _ | refine uJ ?_ | refine uG ?_ _)); exact BK262.out) hb); replace BK273 := uD (blk_below (g := gb273) (o := .cells #[.int .i64 t264, .int .i64 t265, .bool t266, .slice Ao23 t267.length co23] 29 (0, 0)) (by (with_reducible repeat (first | refine uH ?_ _ | refine uJ ?_ | refine uG ?_ _)); refine uQ ?_ NB273_283.out _; (with_reducible repeat (first | refine uH ?_ _ | refine uJ ?_ | refine uG ?_ _)); refine uQ ?_ NB273_283.out _; (with_reducible repeat (first | refine uH ?_ _ | refine uJ ?_ | refine uG ?_ _)); refine uQ ?_ NB273_283.out _; (with_reducible repeat (first | refine uH ?_ _ | refine uJ ?_ | refine uG ?_ _)); refine uQ ?_ NB273_283.out _; (with_reducible repeat (first | refine uH ?_ _ | refine uJ ?_ | refine uG ?_ _)); exact BK273.out) hb); replace BK283 := uD (blk_below (g := gb283) (o := .cells #[.int .i64 t274, .int .i64 t275, .bool t276, .slice Ao30 t277.length co30] 29 (0, 0)) (by (with_reducible repeat (first | refine uH ?_ _ | refine uJ ?_ | refine uG ?_ _)); refine uP (cs := #[.int .i64 t274, .int .i64 t275, .bool t276, .slice none 0 0]) ?_ 3 _ rfl; (with_reducible repeat (first | refine uH ?_ _ | refine uJ ?_ | refine uG ?_ _)); refine uP (cs := #[.int .i64 t274, .int .i64 t275, .bool false, .slice none 0 0]) ?_ 2 _ rfl; (with_reducible repeat (first | refine uH ?_ _ | refine uJ ?_ | refine uG ?_ _)); refine uP (cs := #[.int .i64 t274, .int .i64 0, .bool false, .slice none 0 0]) ?_ 1 _ rfl; (with_reducible repeat (first | refine uH ?_ _ | refine uJ ?_ | refine uG ?_ _)); refine uP (cs := #[.int .i64 0, .int .i64 0, .bool false, .slice none 0 0]) ?_ 0 _ rfl; (with_reducible repeat (first | refine uH ?_ _ | refine uJ ?_ | refine uG ?_ _)); exact BK283.out) hb); replace HB := uD (uO (by repeat (first | (with_reducible first | exact HB.out | apply uL | apply uE | apply uK | refine uM ?_ GE262.out | refine uM ?_ GE273.out | refine uM ?_ GE283.out) | exact HB.out)) hb); (try clear hb); (try clear hb2); (try clear hk); (try clear hi); obtain ⟨Ao40, co40, eo40⟩ := Kd.R_slice HO272.out; subst eo40; obtain ⟨Ao41, co41, eo41⟩ := Kd.R_slice HO282.out; subst eo41) | (go_at_call 44; (with_reducible refine (laws_sameExits.calls kj2 _ _ t270 _ _ t280 t285 _ ?side1 ?side2 ?side3 ?side4 A33.out).mono ?_); (case side1 => repeat (first | exact (Kd.R_reads' HO272.out).2.2 | (with_reducible refine Kd.C_alloc ?_ _) | (with_reducible refine Kd.C_drewN ?_ _) | (with_reducible refine Kd.C_drew ?_))); (case side2 => exact (Kd.R_reads' HO272.out).2.1); (case side3 => repeat (first | exact (Kd.R_reads' HO282.out).2.2 | (with_reducible refine Kd.C_alloc ?_ _) | (with_reducible refine Kd.C_drewN ?_ _) | (with_reducible refine Kd.C_drew ?_))); (case side4 => exact (Kd.R_reads' HO282.out).2.1); rintro e w' ⟨rfl, ⟨nd, rfl⟩⟩; (try first | exact ⟨rfl, _, World.drewN_drewN _ _ _⟩ | exact ⟨rfl, _, Eq.trans (World.drewN_drewN _ _ _) (congrArg (World.drewN _) (Nat.add_assoc _ _ _))⟩)))
      repeat (go_quiet (first | (go_at_call 43; (with_reducible refine (laws_sameBelt.calls kj2 t264 t265 t266 _ _ t267 t274 t275 t276 _ _ t277 true _ ?side1 ?side2 ?side3 ?side4 A31.out).mono ?_); (case side1 => refine (Kd.Q_reads' (e := 53) (base := w.heap.size) (ok := fun k_ => (True ∧ some k_ ≠ (.slice Ao30 t277.length co30 : Value).ownBlock)) (n := t267.length) (c := co23) ?_).2.2; exact (by (with_reducible repeat (first | apply Kd.Q_alloc | apply Kd.Q_drewN | apply Kd.Q_drew)); exact (Kd.Q_mono (Kd.Q_far (p := ⟨gb283, 3, none⟩) (Kd.Q_far (p := ⟨gb283, 2, none⟩) (Kd.Q_far (p := ⟨gb283, 1, none⟩) (Kd.Q_far (p := ⟨gb283, 0, none⟩) (Kd.Q_types HO269.out BK283.out (by decide)) (fun _ hk => hk.2) (.int .i64 t274)) (fun _ hk => hk.2) (.int .i64 t275)) (fun _ hk => hk.2) (.bool t276)) (fun _ hk => hk.2) (.slice Ao30 t277.length co30)) (fun _ h_ => h_.1)))); (case side2 => exact (Kd.Q_reads' HO269.out).2.1); (case side3 => refine (Kd.R_reads' (e := 53) (base := w.heap.size) (ok := fun k_ => (True ∧ some k_ ≠ (.slice Ao23 t267.length co23 : Value).ownBlock)) (n := t277.length) (c := co30) ?_).2.2; exact (by (with_reducible repeat (first | apply uU | apply uS | apply uT)); exact (uX (uV (p := ⟨gb283, 3, none⟩) (uV (p := ⟨gb283, 2, none⟩) (uV (p := ⟨gb283, 1, none⟩) (uV (p := ⟨gb283, 0, none⟩) (uW HO279.out BK283.out (by decide)) (fun _ hk => hk.2) (.int .i64 t274)) (fun _ hk => hk.2) (.int .i64 t275)) (fun _ hk => hk.2) (.bool t276)) (fun _ hk => hk.2) (.slice Ao30 t277.length co30)) (fun _ h_ => h_.1)))); (case side4 => exact (Kd.R_reads' HO279.out).2.1); rintro e w39 ⟨rfl, hb⟩; replace HO269 := uD (Kd.Q_below (by (with_reducible repeat (first | apply Kd.Q_alloc | apply Kd.Q_drewN | apply Kd.Q_drew)); exact (Kd.Q_mono (Kd.Q_far (p := ⟨gb283, 3, none⟩) (Kd.Q_far (p := ⟨gb283, 2, none⟩) (Kd.Q_far (p := ⟨gb283, 1, none⟩) (Kd.Q_far (p := ⟨gb283, 0, none⟩) (Kd.Q_types HO269.out BK283.out (by decide)) (fun _ hk => hk.2) (.int .i64 t274)) (fun _ hk => hk.2) (.int .i64 t275)) (fun _ hk => hk.2) (.bool t276)) (fun _ hk => hk.2) (.slice Ao30 t277.length co30)) (fun _ h_ => h_.1))) hb); replace HO272 := uD (Kd.R_below (by (with_reducible repeat (first | apply uU | apply uS | apply uT)); exact (uX (uV (p := ⟨gb283, 3, none⟩) (uV (p := ⟨gb283, 2, none⟩) (uV (p := ⟨gb283, 1, none⟩) (uV (p := ⟨gb283, 0, none⟩) (uW HO272.out BK283.out (by decide)) (fun _ hk => hk.2) (.int .i64 t274)) (fun _ hk => hk.2) (.int .i64 t275)) (fun _ hk => hk.2) (.bool t276)) (fun _ hk => hk.2) (.slice Ao30 t277.length co30)) (fun _ h_ => h_.1))) hb); replace HO279 := uD (Kd.R_below (by (with_reducible repeat (first | apply uU | apply uS | apply uT)); exact (uX (uV (p := ⟨gb283, 3, none⟩) (uV (p := ⟨gb283, 2, none⟩) (uV (p := ⟨gb283, 1, none⟩) (uV (p := ⟨gb283, 0, none⟩) (uW HO279.out BK283.out (by decide)) (fun _ hk => hk.2) (.int .i64 t274)) (fun _ hk => hk.2) (.int .i64 t275)) (fun _ hk => hk.2) (.bool t276)) (fun _ hk => hk.2) (.slice Ao30 t277.length co30)) (fun _ h_ => h_.1))) hb); replace HO282 := uD (Kd.R_below (by (with_reducible repeat (first | apply uU | apply uS | apply uT)); exact (uX (uV (p := ⟨gb283, 3, none⟩) (uV (p := ⟨gb283, 2, none⟩) (uV (p := ⟨gb283, 1, none⟩) (uV (p := ⟨gb283, 0, none⟩) (uW HO282.out BK283.out (by decide)) (fun _ hk => hk.2) (.int .i64 t274)) (fun _ hk => hk.2) (.int .i64 t275)) (fun _ hk => hk.2) (.bool t276)) (fun _ hk => hk.2) (.slice Ao30 t277.length co30)) (fun _ h_ => h_.1))) hb); replace BK262 := uD (blk_below (g := gb262) (o := .cells #[.int .i64 a0_0, .int .i64 a0_1, .bool a0_2, .slice A0_3 l0_3.length c0_3] 29 (0, 0)) (by (with_reducible repeat (first | refine uH ?_ _ | refine uJ ?_ | refine uG ?_ _)); refine uQ ?_ NB262_283.out _; (with_reducible repeat (first | refine uH ?_ _ | refine uJ ?_ | refine uG ?_ _)); refine uQ ?_ NB262_283.out _; (with_reducible repeat (first | refine uH ?_ _ | refine uJ ?_ | refine uG ?_ _)); refine uQ ?_ NB262_283.out _; (with_reducible repeat (first | refine uH ?_ _ | refine uJ ?_ | refine uG ?_ _)); refine uQ ?_ NB262_283.out _; (with_reducible repeat (first | refine uH ?_ _ | refine uJ ?_ | refine uG ?_ _)); exact BK262.out) hb); replace BK273 := uD (blk_below (g := gb273) (o := .cells #[.int .i64 t264, .int .i64 t265, .bool t266, .slice Ao23 t267.length co23] 29 (0, 0)) (by (with_reducible repeat (first | refine uH ?_ _ | refine uJ ?_ | refine uG ?_ _)); refine uQ ?_ NB273_283.out _; (with_reducible repeat (first | refine uH ?_ _ | refine uJ ?_ | refine uG ?_ _)); refine uQ ?_ NB273_283.out _; (with_reducible repeat (first | refine uH ?_ _ | refine uJ ?_ | refine uG ?_ _)); refine uQ ?_ NB273_283.out _; (with_reducible repeat (first | refine uH ?_ _ | refine uJ ?_ | refine uG ?_ _)); refine uQ ?_ NB273_283.out _; (with_reducible repeat (first | refine uH ?_ _ | refine uJ ?_ | refine uG ?_ _)); exact BK273.out) hb); replace BK283 := uD (blk_below (g := gb283) (o := .cells #[.int .i64 t274, .int .i64 t275, .bool t276, .slice Ao30 t277.length co30] 29 (0, 0)) (by (with_reducible repeat (first | refine uH ?_ _ | refine uJ ?_ | refine uG ?_ _)); refine uP (cs := #[.int .i64 t274, .int .i64 t275, .bool t276, .slice none 0 0]) ?_ 3 _ rfl; (with_reducible repeat (first | refine uH ?_ _ | refine uJ ?_ | refine uG ?_ _)); refine uP (cs := #[.int .i64 t274, .int .i64 t275, .bool false, .slice none 0 0]) ?_ 2 _ rfl; (with_reducible repeat (first | refine uH ?_ _ | refine uJ ?_ | refine uG ?_ _)); refine uP (cs := #[.int .i64 t274, .int .i64 0, .bool false, .slice none 0 0]) ?_ 1 _ rfl; (with_reducible repeat (first | refine uH ?_ _ | refine uJ ?_ | refine uG ?_ _)); refine uP (cs := #[.int .i64 0, .int .i64 0, .bool false, .slice none 0 0]) ?_ 0 _ rfl; (with_reducible repeat (first | refine uH ?_ _ | refine uJ ?_ | refine uG ?_ _)); exact BK283.out) hb); replace HB := uD (uO (by repeat (first | (with_reducible first | exact HB.out | apply uL | apply uE | apply uK | refine uM ?_ GE262.out | refine uM ?_ GE273.out | refine uM ?_ GE283.out) | exact HB.out)) hb); (try clear hb); (try clear hb2); (try clear hk); (try clear hi); obtain ⟨Ao40, co40, eo40⟩ := Kd.R_slice HO272.out; subst eo40; obtain ⟨Ao41, co41, eo41⟩ := Kd.R_slice HO282.out; subst eo41) | (go_at_call 44; (with_reducible refine (laws_sameExits.calls kj2 _ _ t270 _ _ t280 t285 _ ?side1 ?side2 ?side3 ?side4 A33.out).mono ?_); (case side1 => repeat (first | exact (Kd.R_reads' HO272.out).2.2 | (with_reducible refine Kd.C_alloc ?_ _) | (with_reducible refine Kd.C_drewN ?_ _) | (with_reducible refine Kd.C_drew ?_))); (case side2 => exact (Kd.R_reads' HO272.out).2.1); (case side3 => repeat (first | exact (Kd.R_reads' HO282.out).2.2 | (with_reducible refine Kd.C_alloc ?_ _) | (with_reducible refine Kd.C_drewN ?_ _) | (with_reducible refine Kd.C_drew ?_))); (case side4 => exact (Kd.R_reads' HO282.out).2.1); rintro e w' ⟨rfl, ⟨nd, rfl⟩⟩; (try first | exact ⟨rfl, _, World.drewN_drewN _ _ _⟩ | exact ⟨rfl, _, Eq.trans (World.drewN_drewN _ _ _) (congrArg (World.drewN _) (Nat.add_assoc _ _ _))⟩))); try go_wp2_with (first | (go_at_call 43; (with_reducible refine (laws_sameBelt.calls kj2 t264 t265 t266 _ _ t267 t274 t275 t276 _ _ t277 true _ ?side1 ?side2 ?side3 ?side4 A31.out).mono ?_); (case side1 => refine (Kd.Q_reads' (e := 53) (base := w.heap.size) (ok := fun k_ => (True ∧ some k_ ≠ (.slice Ao30 t277.length co30 : Value).ownBlock)) (n := t267.length) (c := co23) ?_).2.2; exact (by (with_reducible repeat (first | apply Kd.Q_alloc | apply Kd.Q_drewN | apply Kd.Q_drew)); exact (Kd.Q_mono (Kd.Q_far (p := ⟨gb283, 3, none⟩) (Kd.Q_far (p := ⟨gb283, 2, none⟩) (Kd.Q_far (p := ⟨gb283, 1, none⟩) (Kd.Q_far (p := ⟨gb283, 0, none⟩) (Kd.Q_types HO269.out BK283.out (by decide)) (fun _ hk => hk.2) (.int .i64 t274)) (fun _ hk => hk.2) (.int .i64 t275)) (fun _ hk => hk.2) (.bool t276)) (fun _ hk => hk.2) (.slice Ao30 t277.length co30)) (fun _ h_ => h_.1)))); (case side2 => exact (Kd.Q_reads' HO269.out).2.1); (case side3 => refine (Kd.R_reads' (e := 53) (base := w.heap.size) (ok := fun k_ => (True ∧ some k_ ≠ (.slice Ao23 t267.length co23 : Value).ownBlock)) (n := t277.length) (c := co30) ?_).2.2; exact (by (with_reducible repeat (first | apply uU | apply uS | apply uT)); exact (uX (uV (p := ⟨gb283, 3, none⟩) (uV (p := ⟨gb283, 2, none⟩) (uV (p := ⟨gb283, 1, none⟩) (uV (p := ⟨gb283, 0, none⟩) (uW HO279.out BK283.out (by decide)) (fun _ hk => hk.2) (.int .i64 t274)) (fun _ hk => hk.2) (.int .i64 t275)) (fun _ hk => hk.2) (.bool t276)) (fun _ hk => hk.2) (.slice Ao30 t277.length co30)) (fun _ h_ => h_.1)))); (case side4 => exact (Kd.R_reads' HO279.out).2.1); rintro e w39 ⟨rfl, hb⟩; replace HO269 := uD (Kd.Q_below (by (with_reducible repeat (first | apply Kd.Q_alloc | apply Kd.Q_drewN | apply Kd.Q_drew)); exact (Kd.Q_mono (Kd.Q_far (p := ⟨gb283, 3, none⟩) (Kd.Q_far (p := ⟨gb283, 2, none⟩) (Kd.Q_far (p := ⟨gb283, 1, none⟩) (Kd.Q_far (p := ⟨gb283, 0, none⟩) (Kd.Q_types HO269.out BK283.out (by decide)) (fun _ hk => hk.2) (.int .i64 t274)) (fun _ hk => hk.2) (.int .i64 t275)) (fun _ hk => hk.2) (.bool t276)) (fun _ hk => hk.2) (.slice Ao30 t277.length co30)) (fun _ h_ => h_.1))) hb); replace HO272 := uD (Kd.R_below (by (with_reducible repeat (first | apply uU | apply uS | apply uT)); exact (uX (uV (p := ⟨gb283, 3, none⟩) (uV (p := ⟨gb283, 2, none⟩) (uV (p := ⟨gb283, 1, none⟩) (uV (p := ⟨gb283, 0, none⟩) (uW HO272.out BK283.out (by decide)) (fun _ hk => hk.2) (.int .i64 t274)) (fun _ hk => hk.2) (.int .i64 t275)) (fun _ hk => hk.2) (.bool t276)) (fun _ hk => hk.2) (.slice Ao30 t277.length co30)) (fun _ h_ => h_.1))) hb); replace HO279 := uD (Kd.R_below (by (with_reducible repeat (first | apply uU | apply uS | apply uT)); exact (uX (uV (p := ⟨gb283, 3, none⟩) (uV (p := ⟨gb283, 2, none⟩) (uV (p := ⟨gb283, 1, none⟩) (uV (p := ⟨gb283, 0, none⟩) (uW HO279.out BK283.out (by decide)) (fun _ hk => hk.2) (.int .i64 t274)) (fun _ hk => hk.2) (.int .i64 t275)) (fun _ hk => hk.2) (.bool t276)) (fun _ hk => hk.2) (.slice Ao30 t277.length co30)) (fun _ h_ => h_.1))) hb); replace HO282 := uD (Kd.R_below (by (with_reducible repeat (first | apply uU | apply uS | apply uT)); exact (uX (uV (p := ⟨gb283, 3, none⟩) (uV (p := ⟨gb283, 2, none⟩) (uV (p := ⟨gb283, 1, none⟩) (uV (p := ⟨gb283, 0, none⟩) (uW HO282.out BK283.out (by decide)) (fun _ hk => hk.2) (.int .i64 t274)) (fun _ hk => hk.2) (.int .i64 t275)) (fun _ hk => hk.2) (.bool t276)) (fun _ hk => hk.2) (.slice Ao30 t277.length co30)) (fun _ h_ => h_.1))) hb); replace BK262 := uD (blk_below (g := gb262) (o := .cells #[.int .i64 a0_0, .int .i64 a0_1, .bool a0_2, .slice A0_3 l0_3.length c0_3] 29 (0, 0)) (by (with_reducible repeat (first | refine uH ?_ _ | refine uJ ?_ | refine uG ?_ _)); refine uQ ?_ NB262_283.out _; (with_reducible repeat (first | refine uH ?_ _ | refine uJ ?_ | refine uG ?_ _)); refine uQ ?_ NB262_283.out _; (with_reducible repeat (first | refine uH ?_ _ | refine uJ ?_ | refine uG ?_ _)); refine uQ ?_ NB262_283.out _; (with_reducible repeat (first | refine uH ?_ _ | refine uJ ?_ | refine uG ?_ _)); refine uQ ?_ NB262_283.out _; (with_reducible repeat (first | refine uH ?_ _ | refine uJ ?_ | refine uG ?_ _)); exact BK262.out) hb); replace BK273 := uD (blk_below (g := gb273) (o := .cells #[.int .i64 t264, .int .i64 t265, .bool t266, .slice Ao23 t267.length co23] 29 (0, 0)) (by (with_reducible repeat (first | refine uH ?_ _ | refine uJ ?_ | refine uG ?_ _)); refine uQ ?_ NB273_283.out _; (with_reducible repeat (first | refine uH ?_ _ | refine uJ ?_ | refine uG ?_ _)); refine uQ ?_ NB273_283.out _; (with_reducible repeat (first | refine uH ?_ _ | refine uJ ?_ | refine uG ?_ _)); refine uQ ?_ NB273_283.out _; (with_reducible repeat (first | refine uH ?_ _ | refine uJ ?_ | refine uG ?_ _)); refine uQ ?_ NB273_283.out _; (with_reducible repeat (first | refine uH ?_ _ | refine uJ ?_ | refine uG ?_ _)); exact BK273.out) hb); replace BK283 := uD (blk_below (g := gb283) (o := .cells #[.int .i64 t274, .int .i64 t275, .bool t276, .slice Ao30 t277.length co30] 29 (0, 0)) (by (with_reducible repeat (first | refine uH ?_ _ | refine uJ ?_ | refine uG ?_ _)); refine uP (cs := #[.int .i64 t274, .int .i64 t275, .bool t276, .slice none 0 0]) ?_ 3 _ rfl; (with_reducible repeat (first | refine uH ?_ _ | refine uJ ?_ | refine uG ?_ _)); refine uP (cs := #[.int .i64 t274, .int .i64 t275, .bool false, .slice none 0 0]) ?_ 2 _ rfl; (with_reducible repeat (first | refine uH ?_ _ | refine uJ ?_ | refine uG ?_ _)); refine uP (cs := #[.int .i64 t274, .int .i64 0, .bool false, .slice none 0 0]) ?_ 1 _ rfl; (with_reducible repeat (first | refine uH ?_ _ | refine uJ ?_ | refine uG ?_ _)); refine uP (cs := #[.int .i64 0, .int .i64 0, .bool false, .slice none 0 0]) ?_ 0 _ rfl; (with_reducible repeat (first | refine uH ?_ _ | refine uJ ?_ | refine uG ?_ _)); exact BK283.out) hb); replace HB := uD (uO (by repeat (first | (with_reducible first | exact HB.out | apply uL | apply uE | apply uK | refine uM ?_ GE262.out | refine uM ?_ GE273.out | refine uM ?_ GE283.out) | exact HB.out)) hb); (try clear hb); (try clear hb2); (try clear hk); (try clear hi); obtain ⟨Ao40, co40, eo40⟩ := Kd.R_slice HO272.out; subst eo40; obtain ⟨Ao41, co41, eo41⟩ := Kd.R_slice HO282.out; subst eo41) | (go_at_call 44; (with_reducible refine (laws_sameExits.calls kj2 _ _ t270 _ _ t280 t285 _ ?side1 ?side2 ?side3 ?side4 A33.out).mono ?_); (case side1 => repeat (first | exact (Kd.R_reads' HO272.out).2.2 | (with_reducible refine Kd.C_alloc ?_ _) | (with_reducible refine Kd.C_drewN ?_ _) | (with_reducible refine Kd.C_drew ?_))); (case side2 => exact (Kd.R_reads' HO272.out).2.1); (case side3 => repeat (first | exact (Kd.R_reads' HO282.out).2.2 | (with_reducible refine Kd.C_alloc ?_ _) | (with_reducible refine Kd.C_drewN ?_ _) | (with_reducible refine Kd.C_drew ?_))); (case side4 => exact (Kd.R_reads' HO282.out).2.1); rintro e w' ⟨rfl, ⟨nd, rfl⟩⟩; (try first | exact ⟨rfl, _, World.drewN_drewN _ _ _⟩ | exact ⟨rfl, _, Eq.trans (World.drewN_drewN _ _ _) (congrArg (World.drewN _) (Nat.add_assoc _ _ _))⟩))))
      go_meet
      case rel => exact ⟨_, (!t285), (by first | rfl | (simp; done) | (simp [*]; done)), H', ⟨by have := HJ2.out; first | omega | exact Nat.le_refl _⟩, ⟨by (with_reducible repeat (first | apply uU | apply uS | apply uT)); exact uX HO272.out (fun _ hk => trivial)⟩, ⟨by (with_reducible repeat (first | apply Kd.Q_alloc | apply Kd.Q_drewN | apply Kd.Q_drew)); exact Kd.Q_mono HO269.out (fun _ hk => hk.2)⟩, ⟨Kd.Q_of_R (by (with_reducible repeat (first | apply uU | apply uS | apply uT)); exact uX HO279.out (fun _ hk => hk.2))⟩, ⟨by (with_reducible repeat (first | refine uH ?_ _ | refine uJ ?_ | refine uG ?_ _)); exact BK262.out⟩, ⟨by (with_reducible repeat (first | refine uH ?_ _ | refine uJ ?_ | refine uG ?_ _)); exact BK273.out⟩, ⟨by (with_reducible repeat (first | refine uH ?_ _ | refine uJ ?_ | refine uG ?_ _)); exact BK283.out⟩, ⟨by repeat (first | (with_reducible first | exact HB.out | apply uL | apply uE | apply uK | refine uM ?_ GE262.out | refine uM ?_ GE273.out | refine uM ?_ GE283.out) | exact HB.out)⟩⟩
     ·replace c32 := Bool.eq_false_iff.mpr c32
      subst c32
      have H1 : (laws_FnBeltRuns.j1 kj2 a1 t270 true a0_0 a0_1 a0_2 l0_3 t264 t265 t266 t267) = some true := by rw [if_neg (show ¬ (false = true) by decide)] at H; first | done | exact H
      clear H
      have H := H1
      clear H1
      exact absurd H (by cases kj2 <;> simp [laws_FnBeltRuns.j1])
    case rest =>
     clear HC17
     try clear c1
     try clear c2
     try clear p2
     try clear c3
     try clear c6
     try clear c7
     try clear c7b0
     try clear c13
     try clear c14
     try clear c21
     try clear c27
     try clear c28
     try clear c32
     try clear c34
     try clear c35
     try clear c37
     try clear hcz10_0
     try clear hcz10_1
     try clear hcz10_2
     try clear hcz10_3
     try clear hcz12_0
     try clear hcz12_1
     try clear hcz12_2
     try clear hcz12_3
     try clear hcz18_0
     try clear hcz18_1
     try clear hcz18_2
     try clear hcz18_3
     try clear hcz22_0
     try clear hcz22_1
     try clear hcz22_2
     try clear hcz22_3
     try clear hcz24_0
     try clear hcz24_1
     try clear hcz24_2
     try clear hcz24_3
     try clear hcz29_0
     try clear hcz29_1
     try clear hcz29_2
     try clear hcz29_3
     try clear hcz36_0
     try clear hcz36_1
     try clear hcz36_2
     try clear hcz36_3
     try clear hcz38_0
     try clear hcz38_1
     try clear hcz38_2
     try clear hcz38_3
     try clear hcz8_0
     try clear hcz8_1
     try clear hcz8_2
     try clear hcz8_3
     try clear hfz10_0
     try clear hfz10_1
     try clear hfz10_2
     try clear hfz10_3
     try clear hfz12_0
     try clear hfz12_1
     try clear hfz12_2
     try clear hfz12_3
     try clear hfz18_0
     try clear hfz18_1
     try clear hfz18_2
     try clear hfz18_3
     try clear hfz22_0
     try clear hfz22_1
     try clear hfz22_2
     try clear hfz22_3
     try clear hfz24_0
     try clear hfz24_1
     try clear hfz24_2
     try clear hfz24_3
     try clear hfz29_0
     try clear hfz29_1
     try clear hfz29_2
     try clear hfz29_3
     try clear hfz36_0
     try clear hfz36_1
     try clear hfz36_2
     try clear hfz36_3
     try clear hfz38_0
     try clear hfz38_1
     try clear hfz38_2
     try clear hfz38_3
     try clear hfz8_0
     try clear hfz8_1
     try clear hfz8_2
     try clear hfz8_3
     try clear p2
     obtain ⟨kq, x44_16, rfl, HA, HJ16, HO_6, HO_274003, HO_284003, BK262, BK273, BK283, HB⟩ := hcut
     cases kq with
     | zero => exact absurd HA.out (by simp [laws_FnBeltRuns.j1])
     | succ kj16 =>
      have H := HA.out
      clear HA
      simp only [laws_FnBeltRuns.j1] at H
      by_cases c42 : x44_16 = true
      ·subst c42
       have H1 : (some false) = some true := by rw [if_pos rfl] at H; first | done | exact H
       clear H
       have H := H1
       clear H1
       exact absurd H (by simp)
      ·replace c42 := Bool.eq_false_iff.mpr c42
       subst c42
       have H1 : (laws_FnBeltRuns.l0 kj16 a1 t270 0 0 a0_0 a0_1 a0_2 l0_3 t264 t265 t266 t267) = some true := by rw [if_neg (show ¬ (false = true) by decide)] at H; first | done | exact H
       clear H
       have H := H1
       clear H1
       have H' := uD H
       clear H
       go_wp2
       repeat (go_quiet (fail); try go_wp2)
       go_loopg [9, 10] kj16 (fun kq v9 v10 w' => ∃ (x9_3 : Int) (x10_3 : Int), v9 = .int .i64 x9_3 ∧ v10 = .int .i64 x10_3 ∧ Aside0 (laws_FnBeltRuns.l0 kq a1 t270 x9_3 x10_3 a0_0 a0_1 a0_2 l0_3 t264 t265 t266 t267 = some true) ∧ Aside0 (kq ≤ kj16) ∧ Aside0 (Kd.R k56 56 w' w.heap.size (fun _ => True) v271 t270) ∧ Aside0 (Kd.Q k53 53 w' w.heap.size (fun k_ => some k_ ≠ ((.slice Ao30 t277.length co30) : Value).ownBlock) (.slice Ao23 t267.length co23) t267) ∧ Aside0 (Kd.Q k53 53 w' w.heap.size (fun k_ => some k_ ≠ ((.slice Ao23 t267.length co23) : Value).ownBlock) (.slice Ao30 t277.length co30) t277) ∧ Aside0 (w'.heap[gb262]? = some (.cells #[.int .i64 a0_0, .int .i64 a0_1, .bool a0_2, (.slice A0_3 l0_3.length c0_3)] 29 (0, 0))) ∧ Aside0 (w'.heap[gb273]? = some (.cells #[.int .i64 t264, .int .i64 t265, .bool t266, (.slice Ao23 t267.length co23)] 29 (0, 0))) ∧ Aside0 (w'.heap[gb283]? = some (.cells #[.int .i64 t274, .int .i64 t275, .bool t276, (.slice Ao30 t277.length co30)] 29 (0, 0))) ∧ Aside0 (Below w.heap.size w w'))
       case atStart => exact ⟨(0), (0), (by first | rfl | (simp; done) | (simp [*]; done)), (by first | rfl | (simp; done) | (simp [*]; done)), H', ⟨Nat.le_refl _⟩, ⟨by (with_reducible repeat (first | apply uU | apply uS | apply uT)); exact HO_6.out⟩, ⟨by (with_reducible repeat (first | apply Kd.Q_alloc | apply Kd.Q_drewN | apply Kd.Q_drew)); exact HO_274003.out⟩, ⟨by (with_reducible repeat (first | apply Kd.Q_alloc | apply Kd.Q_drewN | apply Kd.Q_drew)); exact HO_284003.out⟩, ⟨by (with_reducible repeat (first | refine uH ?_ _ | refine uJ ?_ | refine uG ?_ _)); exact BK262.out⟩, ⟨by (with_reducible repeat (first | refine uH ?_ _ | refine uJ ?_ | refine uG ?_ _)); exact BK273.out⟩, ⟨by (with_reducible repeat (first | refine uH ?_ _ | refine uJ ?_ | refine uG ?_ _)); exact BK283.out⟩, ⟨by repeat (first | (with_reducible first | exact HB.out | apply uL | apply uE | apply uK | refine uM ?_ GE262.out | refine uM ?_ GE273.out | refine uM ?_ GE283.out) | exact HB.out)⟩⟩
       case round =>
        clear H'
        try clear c1
        try clear c2
        try clear p2
        try clear c3
        try clear c4
        try clear c6
        try clear c7
        try clear c7b0
        try clear c13
        try clear c14
        try clear c21
        try clear c27
        try clear c28
        try clear c32
        try clear c34
        try clear c35
        try clear c37
        try clear c42
        try clear hcz10_0
        try clear hcz10_1
        try clear hcz10_2
        try clear hcz10_3
        try clear hcz12_0
        try clear hcz12_1
        try clear hcz12_2
        try clear hcz12_3
        try clear hcz18_0
        try clear hcz18_1
        try clear hcz18_2
        try clear hcz18_3
        try clear hcz22_0
        try clear hcz22_1
        try clear hcz22_2
        try clear hcz22_3
        try clear hcz24_0
        try clear hcz24_1
        try clear hcz24_2
        try clear hcz24_3
        try clear hcz29_0
        try clear hcz29_1
        try clear hcz29_2
        try clear hcz29_3
        try clear hcz36_0
        try clear hcz36_1
        try clear hcz36_2
        try clear hcz36_3
        try clear hcz38_0
        try clear hcz38_1
        try clear hcz38_2
        try clear hcz38_3
        try clear hcz8_0
        try clear hcz8_1
        try clear hcz8_2
        try clear hcz8_3
        try clear hfz10_0
        try clear hfz10_1
        try clear hfz10_2
        try clear hfz10_3
        try clear hfz12_0
        try clear hfz12_1
        try clear hfz12_2
        try clear hfz12_3
        try clear hfz18_0
        try clear hfz18_1
        try clear hfz18_2
        try clear hfz18_3
        try clear hfz22_0
        try clear hfz22_1
        try clear hfz22_2
        try clear hfz22_3
        try clear hfz24_0
        try clear hfz24_1
        try clear hfz24_2
        try clear hfz24_3
        try clear hfz29_0
        try clear hfz29_1
        try clear hfz29_2
        try clear hfz29_3
        try clear hfz36_0
        try clear hfz36_1
        try clear hfz36_2
        try clear hfz36_3
        try clear hfz38_0
        try clear hfz38_1
        try clear hfz38_2
        try clear hfz38_3
        try clear hfz8_0
        try clear hfz8_1
        try clear hfz8_2
        try clear hfz8_3
        try clear p2
        obtain ⟨x9_3, x10_3, rfl, rfl, HA, HK3, HO_6, HO_274003, HO_284003, BK262, BK273, BK283, HB⟩ := hrel
        cases gk with
        | zero => exact absurd HA.out (by simp [laws_FnBeltRuns.l0])
        | succ k3 =>
         have H := HA.out
         clear HA
         simp only [laws_FnBeltRuns.l0] at H
         by_cases c43 : x10_3 < (l0_3.length : Int)
         ·rw [if_pos c43] at H
          have c43b0 : decide (x10_3 < (l0_3.length : Int)) = true := decide_eq_true c43
          clear c43
          by_cases c44 : 0 ≤ x10_3
          ·rw [if_pos c44] at H
           have c44b0 : decide (0 ≤ x10_3) = true := decide_eq_true c44
           clear c44
           have HC45 := uD H
           clear H
           have hnb46 := NB262_273.out
           have hnc46 := NB273_262.out
           have hnb47 := NB262_283.out
           have hnc47 := NB283_262.out
           have hcz48_0 : wr.cell? ⟨gb262, 0, none⟩ = some (.int .i64 a0_0) := (uF BK262.out 0).trans rfl
           have hcz48_1 : wr.cell? ⟨gb262, 1, none⟩ = some (.int .i64 a0_1) := (uF BK262.out 1).trans rfl
           have hcz48_2 : wr.cell? ⟨gb262, 2, none⟩ = some (.bool a0_2) := (uF BK262.out 2).trans rfl
           have hcz48_3 : wr.cell? ⟨gb262, 3, none⟩ = some (.slice A0_3 l0_3.length c0_3) := (uF BK262.out 3).trans rfl
           have hfz48_0 := uI BK262.out 0
           have hfz48_1 := uI BK262.out 1
           have hfz48_2 := uI BK262.out 2
           have hfz48_3 := uI BK262.out 3
           have p287 : 0 ≤ (x10_3 : Int) := of_decide_eq_true (by first | (with_reducible assumption) | assumption)
           have q287 : x10_3 < (l0_3.length : Int) := of_decide_eq_true (by first | (with_reducible assumption) | assumption)
           obtain ⟨ad287, e287, hx287_0, hx287_1, hx287_2⟩ := at_T53 HR0_3.out x10_3 p287 q287
           cases e287
           replace hx287_0 := (HB.out.cell (World.block_lt_of_cell? w _ hx287_0)).trans hx287_0
           replace hx287_1 := (HB.out.cell (World.block_lt_of_cell? w _ hx287_1)).trans hx287_1
           replace hx287_2 := (HB.out.cell (World.block_lt_of_cell? w _ hx287_2)).trans hx287_2
           replace p287 := eq_true p287
           replace q287 := eq_true q287
           go_upto_region 12 with (fail)
           repeat (go_quiet (fail); go_upto_region 12 with (fail))
           go_cut [67] (fun v67 wc => ∃ (kq : Nat) (x67_44 : Bool), v67 = .bool x67_44 ∧ Aside0 (laws_FnBeltRuns.j3 kq a1 t270 x9_3 x10_3 (wrap64 (a0_0 - ((rd_T53 l0_3 x10_3).f1))) x67_44 a0_0 a0_1 a0_2 l0_3 t264 t265 t266 t267 = some true) ∧ Aside0 (kq ≤ k3) ∧ Aside0 (Kd.R k56 56 wc w.heap.size (fun _ => True) v271 t270) ∧ Aside0 (Kd.Q k53 53 wc w.heap.size (fun k_ => some k_ ≠ ((.slice Ao30 t277.length co30) : Value).ownBlock) (.slice Ao23 t267.length co23) t267) ∧ Aside0 (Kd.Q k53 53 wc w.heap.size (fun k_ => some k_ ≠ ((.slice Ao23 t267.length co23) : Value).ownBlock) (.slice Ao30 t277.length co30) t277) ∧ Aside0 (wc.heap[gb262]? = some (.cells #[.int .i64 a0_0, .int .i64 a0_1, .bool a0_2, (.slice (some ad287) l0_3.length c0_3)] 29 (0, 0))) ∧ Aside0 (wc.heap[gb273]? = some (.cells #[.int .i64 t264, .int .i64 t265, .bool t266, (.slice Ao23 t267.length co23)] 29 (0, 0))) ∧ Aside0 (wc.heap[gb283]? = some (.cells #[.int .i64 t274, .int .i64 t275, .bool t276, (.slice Ao30 t277.length co30)] 29 (0, 0))) ∧ Aside0 (Below w.heap.size w wc))
           case first =>
            have H := HC45.out
            clear HC45
            by_cases c49 : a0_2 = true
            ·subst c49
             have H1 : (laws_FnBeltRuns.j3 k3 a1 t270 x9_3 x10_3 (wrap64 (a0_0 - ((rd_T53 l0_3 x10_3).f1))) true a0_0 a0_1 true l0_3 t264 t265 t266 t267) = some true := by rw [if_pos rfl] at H; first | done | exact H
             clear H
             have H := H1
             clear H1
             have H' := uD H
             clear H
             have hnb50 := NB262_273.out
             have hnc50 := NB273_262.out
             have hnb51 := NB262_283.out
             have hnc51 := NB283_262.out
             have hcz52_0 : wr.cell? ⟨gb262, 0, none⟩ = some (.int .i64 a0_0) := (uF BK262.out 0).trans rfl
             have hcz52_1 : wr.cell? ⟨gb262, 1, none⟩ = some (.int .i64 a0_1) := (uF BK262.out 1).trans rfl
             have hcz52_2 : wr.cell? ⟨gb262, 2, none⟩ = some (.bool true) := (uF BK262.out 2).trans rfl
             have hcz52_3 : wr.cell? ⟨gb262, 3, none⟩ = some (.slice (some ad287) l0_3.length c0_3) := (uF BK262.out 3).trans rfl
             have hfz52_0 := uI BK262.out 0
             have hfz52_1 := uI BK262.out 1
             have hfz52_2 := uI BK262.out 2
             have hfz52_3 := uI BK262.out 3
             go_wp2
             repeat (go_quiet (fail); try go_wp2)
             go_meet
             case rel => exact ⟨_, (true), (by first | rfl | (simp; done) | (simp [*]; done)), H', ⟨by have := HJ2.out; have := HJ16.out; have := HK3.out; first | omega | exact Nat.le_refl _⟩, ⟨by (with_reducible repeat (first | apply uU | apply uS | apply uT)); exact HO_6.out⟩, ⟨by (with_reducible repeat (first | apply Kd.Q_alloc | apply Kd.Q_drewN | apply Kd.Q_drew)); exact HO_274003.out⟩, ⟨by (with_reducible repeat (first | apply Kd.Q_alloc | apply Kd.Q_drewN | apply Kd.Q_drew)); exact HO_284003.out⟩, ⟨by (with_reducible repeat (first | refine uH ?_ _ | refine uJ ?_ | refine uG ?_ _)); exact BK262.out⟩, ⟨by (with_reducible repeat (first | refine uH ?_ _ | refine uJ ?_ | refine uG ?_ _)); exact BK273.out⟩, ⟨by (with_reducible repeat (first | refine uH ?_ _ | refine uJ ?_ | refine uG ?_ _)); exact BK283.out⟩, ⟨by repeat (first | (with_reducible first | exact HB.out | apply uL | apply uE | apply uK | refine uM ?_ GE262.out | refine uM ?_ GE273.out | refine uM ?_ GE283.out) | exact HB.out)⟩⟩
            ·replace c49 := Bool.eq_false_iff.mpr c49
             subst c49
             have H1 : (laws_FnBeltRuns.j3 k3 a1 t270 x9_3 x10_3 (wrap64 (a0_0 - ((rd_T53 l0_3 x10_3).f1))) (decide ((wrap64 (a0_0 - ((rd_T53 l0_3 x10_3).f1))) ≥ a1)) a0_0 a0_1 false l0_3 t264 t265 t266 t267) = some true := by rw [if_neg (show ¬ (false = true) by decide)] at H; first | done | exact H
             clear H
             have H := H1
             clear H1
             have H' := uD H
             clear H
             have hnb53 := NB262_273.out
             have hnc53 := NB273_262.out
             have hnb54 := NB262_283.out
             have hnc54 := NB283_262.out
             have hcz55_0 : wr.cell? ⟨gb262, 0, none⟩ = some (.int .i64 a0_0) := (uF BK262.out 0).trans rfl
             have hcz55_1 : wr.cell? ⟨gb262, 1, none⟩ = some (.int .i64 a0_1) := (uF BK262.out 1).trans rfl
             have hcz55_2 : wr.cell? ⟨gb262, 2, none⟩ = some (.bool false) := (uF BK262.out 2).trans rfl
             have hcz55_3 : wr.cell? ⟨gb262, 3, none⟩ = some (.slice (some ad287) l0_3.length c0_3) := (uF BK262.out 3).trans rfl
             have hfz55_0 := uI BK262.out 0
             have hfz55_1 := uI BK262.out 1
             have hfz55_2 := uI BK262.out 2
             have hfz55_3 := uI BK262.out 3
             go_wp2
             repeat (go_quiet (fail); try go_wp2)
             go_meet
             case rel => exact ⟨_, (decide ((wrap64 (a0_0 - ((rd_T53 l0_3 x10_3).f1))) ≥ a1)), (by first | rfl | (simp; done) | (simp [*]; done)), H', ⟨by have := HJ2.out; have := HJ16.out; have := HK3.out; first | omega | exact Nat.le_refl _⟩, ⟨by (with_reducible repeat (first | apply uU | apply uS | apply uT)); exact HO_6.out⟩, ⟨by (with_reducible repeat (first | apply Kd.Q_alloc | apply Kd.Q_drewN | apply Kd.Q_drew)); exact HO_274003.out⟩, ⟨by (with_reducible repeat (first | apply Kd.Q_alloc | apply Kd.Q_drewN | apply Kd.Q_drew)); exact HO_284003.out⟩, ⟨by (with_reducible repeat (first | refine uH ?_ _ | refine uJ ?_ | refine uG ?_ _)); exact BK262.out⟩, ⟨by (with_reducible repeat (first | refine uH ?_ _ | refine uJ ?_ | refine uG ?_ _)); exact BK273.out⟩, ⟨by (with_reducible repeat (first | refine uH ?_ _ | refine uJ ?_ | refine uG ?_ _)); exact BK283.out⟩, ⟨by repeat (first | (with_reducible first | exact HB.out | apply uL | apply uE | apply uK | refine uM ?_ GE262.out | refine uM ?_ GE273.out | refine uM ?_ GE283.out) | exact HB.out)⟩⟩
           case rest =>
            clear HC45
            try clear c1
            try clear c2
            try clear p2
            try clear q2
            try clear hx2
            try clear c3
            try clear c4
            try clear c5
            try clear c6
            try clear p6
            try clear c7
            try clear c7b0
            try clear c13
            try clear c14
            try clear c21
            try clear c27
            try clear c28
            try clear p28
            try clear q28
            try clear hx28
            try clear c32
            try clear c34
            try clear c35
            try clear c37
            try clear c42
            try clear c43
            try clear c43b0
            try clear c44
            try clear c44b0
            try clear c46
            try clear c47
            try clear c49
            try clear c50
            try clear c51
            try clear c53
            try clear c54
            try clear hcz10_0
            try clear hcz10_1
            try clear hcz10_2
            try clear hcz10_3
            try clear hcz12_0
            try clear hcz12_1
            try clear hcz12_2
            try clear hcz12_3
            try clear hcz18_0
            try clear hcz18_1
            try clear hcz18_2
            try clear hcz18_3
            try clear hcz22_0
            try clear hcz22_1
            try clear hcz22_2
            try clear hcz22_3
            try clear hcz24_0
            try clear hcz24_1
            try clear hcz24_2
            try clear hcz24_3
            try clear hcz29_0
            try clear hcz29_1
            try clear hcz29_2
            try clear hcz29_3
            try clear hcz36_0
            try clear hcz36_1
            try clear hcz36_2
            try clear hcz36_3
            try clear hcz38_0
            try clear hcz38_1
            try clear hcz38_2
            try clear hcz38_3
            try clear hcz48_0
            try clear hcz48_1
            try clear hcz48_2
            try clear hcz48_3
            try clear hcz52_0
            try clear hcz52_1
            try clear hcz52_2
            try clear hcz52_3
            try clear hcz55_0
            try clear hcz55_1
            try clear hcz55_2
            try clear hcz55_3
            try clear hcz8_0
            try clear hcz8_1
            try clear hcz8_2
            try clear hcz8_3
            try clear hfz10_0
            try clear hfz10_1
            try clear hfz10_2
            try clear hfz10_3
            try clear hfz12_0
            try clear hfz12_1
            try clear hfz12_2
            try clear hfz12_3
            try clear hfz18_0
            try clear hfz18_1
            try clear hfz18_2
            try clear hfz18_3
            try clear hfz22_0
            try clear hfz22_1
            try clear hfz22_2
            try clear hfz22_3
            try clear hfz24_0
            try clear hfz24_1
            try clear hfz24_2
            try clear hfz24_3
            try clear hfz29_0
            try clear hfz29_1
            try clear hfz29_2
            try clear hfz29_3
            try clear hfz36_0
            try clear hfz36_1
            try clear hfz36_2
            try clear hfz36_3
            try clear hfz38_0
            try clear hfz38_1
            try clear hfz38_2
            try clear hfz38_3
            try clear hfz48_0
            try clear hfz48_1
            try clear hfz48_2
            try clear hfz48_3
            try clear hfz52_0
            try clear hfz52_1
            try clear hfz52_2
            try clear hfz52_3
            try clear hfz55_0
            try clear hfz55_1
            try clear hfz55_2
            try clear hfz55_3
            try clear hfz8_0
            try clear hfz8_1
            try clear hfz8_2
            try clear hfz8_3
            try clear hx287_0
            try clear hx287_1
            try clear hx287_2
            try clear p2
            try clear p287
            try clear q287
            obtain ⟨kq, x67_44, rfl, HA, HJ44, HO_6, HO_274003, HO_284003, BK262, BK273, BK283, HB⟩ := hcut
            cases kq with
            | zero => exact absurd HA.out (by simp [laws_FnBeltRuns.j3])
            | succ kj44 =>
             have H := HA.out
             clear HA
             simp only [laws_FnBeltRuns.j3] at H
             by_cases c56 : x67_44 = true
             ·subst c56
              have H1 : (laws_FnBeltRuns.l0 kj44 a1 t270 x9_3 (wrap64 (x10_3 + 1)) a0_0 a0_1 a0_2 l0_3 t264 t265 t266 t267) = some true := by rw [if_pos rfl] at H; first | done | exact H
              clear H
              have H := H1
              clear H1
              have H' := uD H
              clear H
              go_wp2
              repeat (go_quiet (fail); try go_wp2)
              go_roundg kj44
              case measure => have := HJ2.out; have := HJ16.out; have := HK3.out; have := HJ44.out; omega
              case rel => exact ⟨(x9_3), (wrap64 (x10_3 + 1)), (by first | rfl | (simp; done) | (simp [*]; done)), (by first | rfl | (simp; done) | (simp [*]; done)), H', ⟨by have := HJ2.out; have := HJ16.out; have := HK3.out; have := HJ44.out; omega⟩, ⟨by (with_reducible repeat (first | apply uU | apply uS | apply uT)); exact HO_6.out⟩, ⟨by (with_reducible repeat (first | apply Kd.Q_alloc | apply Kd.Q_drewN | apply Kd.Q_drew)); exact HO_274003.out⟩, ⟨by (with_reducible repeat (first | apply Kd.Q_alloc | apply Kd.Q_drewN | apply Kd.Q_drew)); exact HO_284003.out⟩, ⟨by (with_reducible repeat (first | refine uH ?_ _ | refine uJ ?_ | refine uG ?_ _)); exact BK262.out⟩, ⟨by (with_reducible repeat (first | refine uH ?_ _ | refine uJ ?_ | refine uG ?_ _)); exact BK273.out⟩, ⟨by (with_reducible repeat (first | refine uH ?_ _ | refine uJ ?_ | refine uG ?_ _)); exact BK283.out⟩, ⟨by repeat (first | (with_reducible first | exact HB.out | apply uL | apply uE | apply uK | refine uM ?_ GE262.out | refine uM ?_ GE273.out | refine uM ?_ GE283.out) | exact HB.out)⟩⟩
             ·replace c56 := Bool.eq_false_iff.mpr c56
              subst c56
              have H1 : (if x9_3 ≥ (t270.length : Int) then (some false) else (if 0 ≤ x9_3 then (if x9_3 < (t270.length : Int) then (if 0 ≤ x10_3 then (if x10_3 < (l0_3.length : Int) then (if ((rd_T56 t270 x9_3).f0) = ((rd_T53 l0_3 x10_3).f0) then (if ((rd_T56 t270 x9_3).f1) = (wrap64 (a0_0 - ((rd_T53 l0_3 x10_3).f1))) then (laws_FnBeltRuns.l0 kj44 a1 t270 (wrap64 (x9_3 + 1)) (wrap64 (x10_3 + 1)) a0_0 a0_1 a0_2 l0_3 t264 t265 t266 t267) else (some false)) else (some false)) else (none)) else (none)) else (none)) else (none))) = some true := by rw [if_neg (show ¬ (false = true) by decide)] at H; first | done | exact H
              clear H
              have H := H1
              clear H1
              by_cases c57 : x9_3 ≥ (t270.length : Int)
              ·rw [if_pos c57] at H
               have c57b0 : decide ((t270.length : Int) ≤ x9_3) = true := decide_eq_true c57
               clear c57
               exact absurd H (by simp)
              ·rw [if_neg c57] at H
               have c57b0 : decide ((t270.length : Int) ≤ x9_3) = false := decide_eq_false c57
               clear c57
               by_cases c58 : 0 ≤ x9_3
               ·rw [if_pos c58] at H
                have c58b0 : decide (0 ≤ x9_3) = true := decide_eq_true c58
                clear c58
                by_cases c59 : x9_3 < (t270.length : Int)
                ·rw [if_pos c59] at H
                 have c59b0 : decide (x9_3 < (t270.length : Int)) = true := decide_eq_true c59
                 clear c59
                 by_cases c60 : 0 ≤ x10_3
                 ·rw [if_pos c60] at H
                  have c60b0 : decide (0 ≤ x10_3) = true := decide_eq_true c60
                  clear c60
                  by_cases c61 : x10_3 < (l0_3.length : Int)
                  ·rw [if_pos c61] at H
                   have c61b0 : decide (x10_3 < (l0_3.length : Int)) = true := decide_eq_true c61
                   clear c61
                   by_cases c62 : ((rd_T56 t270 x9_3).f0) = ((rd_T53 l0_3 x10_3).f0)
                   ·rw [if_pos c62] at H
                    have c62b0 : (((rd_T56 t270 x9_3).f0) == ((rd_T53 l0_3 x10_3).f0)) = true := beq_iff_eq.mpr c62
                    have c62b1 : (((rd_T56 t270 x9_3).f0) != ((rd_T53 l0_3 x10_3).f0)) = false := bne_eq_false_iff_eq.mpr c62
                    clear c62
                    by_cases c63 : ((rd_T56 t270 x9_3).f1) = (wrap64 (a0_0 - ((rd_T53 l0_3 x10_3).f1)))
                    ·rw [if_pos c63] at H
                     have c63b0 : (((rd_T56 t270 x9_3).f1) == (wrap64 (a0_0 - ((rd_T53 l0_3 x10_3).f1)))) = true := beq_iff_eq.mpr c63
                     have c63b1 : (((rd_T56 t270 x9_3).f1) != (wrap64 (a0_0 - ((rd_T53 l0_3 x10_3).f1)))) = false := bne_eq_false_iff_eq.mpr c63
                     clear c63
                     have H' := uD H
                     clear H
                     obtain ⟨Ao64, co64, eo64⟩ := Kd.R_slice HO_6.out
                     subst eo64
                     have p288 : 0 ≤ (x9_3 : Int) := of_decide_eq_true (by first | (with_reducible assumption) | assumption)
                     have q288 : x9_3 < (t270.length : Int) := of_decide_eq_true (by first | (with_reducible assumption) | assumption)
                     obtain ⟨ad288, e288, hx288_0, hx288_1⟩ := at_T56 (Kd.R_reads' HO_6.out).2.2 x9_3 p288 q288
                     cases e288
                     replace p288 := eq_true p288
                     replace q288 := eq_true q288
                     have hnb65 := NB262_273.out
                     have hnc65 := NB273_262.out
                     have hnb66 := NB262_283.out
                     have hnc66 := NB283_262.out
                     have hcz67_0 : wc.cell? ⟨gb262, 0, none⟩ = some (.int .i64 a0_0) := (uF BK262.out 0).trans rfl
                     have hcz67_1 : wc.cell? ⟨gb262, 1, none⟩ = some (.int .i64 a0_1) := (uF BK262.out 1).trans rfl
                     have hcz67_2 : wc.cell? ⟨gb262, 2, none⟩ = some (.bool a0_2) := (uF BK262.out 2).trans rfl
                     have hcz67_3 : wc.cell? ⟨gb262, 3, none⟩ = some (.slice (some ad287) l0_3.length c0_3) := (uF BK262.out 3).trans rfl
                     have hfz67_0 := uI BK262.out 0
                     have hfz67_1 := uI BK262.out 1
                     have hfz67_2 := uI BK262.out 2
                     have hfz67_3 := uI BK262.out 3
                     have p289 : 0 ≤ (x10_3 : Int) := of_decide_eq_true (by first | (with_reducible assumption) | assumption)
                     have q289 : x10_3 < (l0_3.length : Int) := of_decide_eq_true (by first | (with_reducible assumption) | assumption)
                     obtain ⟨ad289, e289, hx289_0, hx289_1, hx289_2⟩ := at_T53 HR0_3.out x10_3 p289 q289
                     obtain rfl : ad287 = ad289 := (by injection e289)
                     replace hx289_0 := (HB.out.cell (World.block_lt_of_cell? w _ hx289_0)).trans hx289_0
                     replace hx289_1 := (HB.out.cell (World.block_lt_of_cell? w _ hx289_1)).trans hx289_1
                     replace hx289_2 := (HB.out.cell (World.block_lt_of_cell? w _ hx289_2)).trans hx289_2
                     replace p289 := eq_true p289
                     replace q289 := eq_true q289
                     have p290 : 0 ≤ (x9_3 : Int) := of_decide_eq_true (by first | (with_reducible assumption) | assumption)
                     have q290 : x9_3 < (t270.length : Int) := of_decide_eq_true (by first | (with_reducible assumption) | assumption)
                     obtain ⟨ad290, e290, hx290_0, hx290_1⟩ := at_T56 (Kd.R_reads' HO_6.out).2.2 x9_3 p290 q290
                     obtain rfl : ad288 = ad290 := (by injection e290)
                     replace p290 := eq_true p290
                     replace q290 := eq_true q290
                     go_wp2
                     repeat (go_quiet (fail); try go_wp2)
                     go_roundg kj44
                     case measure => have := HJ2.out; have := HJ16.out; have := HK3.out; have := HJ44.out; omega
                     case rel => exact ⟨(wrap64 (x9_3 + 1)), (wrap64 (x10_3 + 1)), (by first | rfl | (simp; done) | (simp [*]; done)), (by first | rfl | (simp; done) | (simp [*]; done)), H', ⟨by have := HJ2.out; have := HJ16.out; have := HK3.out; have := HJ44.out; omega⟩, ⟨by (with_reducible repeat (first | apply uU | apply uS | apply uT)); exact HO_6.out⟩, ⟨by (with_reducible repeat (first | apply Kd.Q_alloc | apply Kd.Q_drewN | apply Kd.Q_drew)); exact HO_274003.out⟩, ⟨by (with_reducible repeat (first | apply Kd.Q_alloc | apply Kd.Q_drewN | apply Kd.Q_drew)); exact HO_284003.out⟩, ⟨by (with_reducible repeat (first | refine uH ?_ _ | refine uJ ?_ | refine uG ?_ _)); exact BK262.out⟩, ⟨by (with_reducible repeat (first | refine uH ?_ _ | refine uJ ?_ | refine uG ?_ _)); exact BK273.out⟩, ⟨by (with_reducible repeat (first | refine uH ?_ _ | refine uJ ?_ | refine uG ?_ _)); exact BK283.out⟩, ⟨by repeat (first | (with_reducible first | exact HB.out | apply uL | apply uE | apply uK | refine uM ?_ GE262.out | refine uM ?_ GE273.out | refine uM ?_ GE283.out) | exact HB.out)⟩⟩
                    ·rw [if_neg c63] at H
                     have c63b0 : (((rd_T56 t270 x9_3).f1) == (wrap64 (a0_0 - ((rd_T53 l0_3 x10_3).f1)))) = false := beq_eq_false_iff_ne.mpr c63
                     have c63b1 : (((rd_T56 t270 x9_3).f1) != (wrap64 (a0_0 - ((rd_T53 l0_3 x10_3).f1)))) = true := bne_iff_ne.mpr c63
                     exact absurd H (by simp)
                   ·rw [if_neg c62] at H
                    have c62b0 : (((rd_T56 t270 x9_3).f0) == ((rd_T53 l0_3 x10_3).f0)) = false := beq_eq_false_iff_ne.mpr c62
                    have c62b1 : (((rd_T56 t270 x9_3).f0) != ((rd_T53 l0_3 x10_3).f0)) = true := bne_iff_ne.mpr c62
                    exact absurd H (by simp)
                  ·rw [if_neg c61] at H
                   exact absurd H (by simp)
                 ·rw [if_neg c60] at H
                  exact absurd H (by simp)
                ·rw [if_neg c59] at H
                 exact absurd H (by simp)
               ·rw [if_neg c58] at H
                exact absurd H (by simp)
          ·rw [if_neg c44] at H
           exact absurd H (by simp)
         ·rw [if_neg c43] at H
          have c43b0 : decide (x10_3 < (l0_3.length : Int)) = false := decide_eq_false c43
          clear c43
          by_cases c68 : x9_3 = (t270.length : Int)
          ·rw [if_pos c68] at H
           have c68b0 : (x9_3 == (t270.length : Int)) = true := beq_iff_eq.mpr c68
           have c68b1 : (x9_3 != (t270.length : Int)) = false := bne_eq_false_iff_eq.mpr c68
           clear c68
           replace H := Option.bind_eq_some_iff.mp H
           obtain ⟨t286, A690, H⟩ := H
           replace H : (if t286 = true then (some ((wrap64 ((t267.length : Int) + x9_3)) == (l0_3.length : Int))) else (some false)) = some true := H
           have A69 := uD A690
           clear A690
           by_cases c70 : t286 = true
           ·subst c70
            have H1 : (some ((wrap64 ((t267.length : Int) + x9_3)) == (l0_3.length : Int))) = some true := by rw [if_pos rfl] at H; first | done | exact H
            clear H
            have H := H1
            clear H1
            have HT := Option.some.inj H
            clear H
            have hnb71 := NB262_273.out
            have hnc71 := NB273_262.out
            have hnb72 := NB262_283.out
            have hnc72 := NB283_262.out
            have hcz73_0 : wr.cell? ⟨gb262, 0, none⟩ = some (.int .i64 a0_0) := (uF BK262.out 0).trans rfl
            have hcz73_1 : wr.cell? ⟨gb262, 1, none⟩ = some (.int .i64 a0_1) := (uF BK262.out 1).trans rfl
            have hcz73_2 : wr.cell? ⟨gb262, 2, none⟩ = some (.bool a0_2) := (uF BK262.out 2).trans rfl
            have hcz73_3 : wr.cell? ⟨gb262, 3, none⟩ = some (.slice A0_3 l0_3.length c0_3) := (uF BK262.out 3).trans rfl
            have hfz73_0 := uI BK262.out 0
            have hfz73_1 := uI BK262.out 1
            have hfz73_2 := uI BK262.out 2
            have hfz73_3 := uI BK262.out 3
            obtain ⟨Ao74, co74, eo74⟩ := Kd.R_slice HO_6.out
            subst eo74
            have hnb75 := NB273_283.out
            have hnc75 := NB283_273.out
            have hcz76_0 : wr.cell? ⟨gb273, 0, none⟩ = some (.int .i64 t264) := (uF BK273.out 0).trans rfl
            have hcz76_1 : wr.cell? ⟨gb273, 1, none⟩ = some (.int .i64 t265) := (uF BK273.out 1).trans rfl
            have hcz76_2 : wr.cell? ⟨gb273, 2, none⟩ = some (.bool t266) := (uF BK273.out 2).trans rfl
            have hcz76_3 : wr.cell? ⟨gb273, 3, none⟩ = some (.slice Ao23 t267.length co23) := (uF BK273.out 3).trans rfl
            have hfz76_0 := uI BK273.out 0
            have hfz76_1 := uI BK273.out 1
            have hfz76_2 := uI BK273.out 2
            have hfz76_3 := uI BK273.out 3
            go_wp2_with (first | (go_at_call 18; (with_reducible refine (impl_BeltOk.calls k3 t264 t265 t266 _ _ t267 true _ ?side1 ?side2 A69.out).mono ?_); (case side1 => repeat (first | exact (Kd.Q_reads' HO_274003.out).2.2 | (with_reducible refine Kd.C_alloc ?_ _) | (with_reducible refine Kd.C_drewN ?_ _) | (with_reducible refine Kd.C_drew ?_))); (case side2 => exact (Kd.Q_reads' HO_274003.out).2.1); rintro e w77 ⟨rfl, hb⟩; replace HO_6 := uD (Kd.R_below (by (with_reducible repeat (first | apply uU | apply uS | apply uT)); exact HO_6.out) hb); replace HO_274003 := uD (Kd.Q_below (by (with_reducible repeat (first | apply Kd.Q_alloc | apply Kd.Q_drewN | apply Kd.Q_drew)); exact HO_274003.out) hb); replace HO_284003 := uD (Kd.Q_below (by (with_reducible repeat (first | apply Kd.Q_alloc | apply Kd.Q_drewN | apply Kd.Q_drew)); exact HO_284003.out) hb); replace BK262 := uD (blk_below (g := gb262) (o := .cells #[.int .i64 a0_0, .int .i64 a0_1, .bool a0_2, .slice A0_3 l0_3.length c0_3] 29 (0, 0)) (by (with_reducible repeat (first | refine uH ?_ _ | refine uJ ?_ | refine uG ?_ _)); exact BK262.out) hb); replace BK273 := uD (blk_below (g := gb273) (o := .cells #[.int .i64 t264, .int .i64 t265, .bool t266, .slice Ao23 t267.length co23] 29 (0, 0)) (by (with_reducible repeat (first | refine uH ?_ _ | refine uJ ?_ | refine uG ?_ _)); exact BK273.out) hb); replace BK283 := uD (blk_below (g := gb283) (o := .cells #[.int .i64 t274, .int .i64 t275, .bool t276, .slice Ao30 t277.length co30] 29 (0, 0)) (by (with_reducible repeat (first | refine uH ?_ _ | refine uJ ?_ | refine uG ?_ _)); exact BK283.out) hb); replace HB := uD (uO (by repeat (first | (with_reducible first | exact HB.out | apply uL | apply uE | apply uK | refine uM ?_ GE262.out | refine uM ?_ GE273.out | refine uM ?_ GE283.out) | exact HB.out)) hb); (try clear hb); (try clear hb2); (try clear hk); (try clear hi); have hcz78_0 : w77.cell? ⟨gb273, 0, none⟩ = some (.int .i64 t264) := (uF BK273.out 0).trans rfl; have hcz78_1 : w77.cell? ⟨gb273, 1, none⟩ = some (.int .i64 t265) := (uF BK273.out 1).trans rfl; have hcz78_2 : w77.cell? ⟨gb273, 2, none⟩ = some (.bool t266) := (uF BK273.out 2).trans rfl; have hcz78_3 : w77.cell? ⟨gb273, 3, none⟩ = some (.slice Ao23 t267.length co23) := (uF BK273.out 3).trans rfl; have hfz78_0 := uI BK273.out 0; have hfz78_1 := uI BK273.out 1; have hfz78_2 := uI BK273.out 2; have hfz78_3 := uI BK273.out 3; have hcz79_0 : w77.cell? ⟨gb262, 0, none⟩ = some (.int .i64 a0_0) := (uF BK262.out 0).trans rfl; have hcz79_1 : w77.cell? ⟨gb262, 1, none⟩ = some (.int .i64 a0_1) := (uF BK262.out 1).trans rfl; have hcz79_2 : w77.cell? ⟨gb262, 2, none⟩ = some (.bool a0_2) := (uF BK262.out 2).trans rfl; have hcz79_3 : w77.cell? ⟨gb262, 3, none⟩ = some (.slice A0_3 l0_3.length c0_3) := (uF BK262.out 3).trans rfl; have hfz79_0 := uI BK262.out 0; have hfz79_1 := uI BK262.out 1; have hfz79_2 := uI BK262.out 2; have hfz79_3 := uI BK262.out 3))
            repeat (go_quiet (first | (go_at_call 18; (with_reducible refine (impl_BeltOk.calls k3 t264 t265 t266 _ _ t267 true _ ?side1 ?side2 A69.out).mono ?_); (case side1 => repeat (first | exact (Kd.Q_reads' HO_274003.out).2.2 | (with_reducible refine Kd.C_alloc ?_ _) | (with_reducible refine Kd.C_drewN ?_ _) | (with_reducible refine Kd.C_drew ?_))); (case side2 => exact (Kd.Q_reads' HO_274003.out).2.1); rintro e w77 ⟨rfl, hb⟩; replace HO_6 := uD (Kd.R_below (by (with_reducible repeat (first | apply uU | apply uS | apply uT)); exact HO_6.out) hb); replace HO_274003 := uD (Kd.Q_below (by (with_reducible repeat (first | apply Kd.Q_alloc | apply Kd.Q_drewN | apply Kd.Q_drew)); exact HO_274003.out) hb); replace HO_284003 := uD (Kd.Q_below (by (with_reducible repeat (first | apply Kd.Q_alloc | apply Kd.Q_drewN | apply Kd.Q_drew)); exact HO_284003.out) hb); replace BK262 := uD (blk_below (g := gb262) (o := .cells #[.int .i64 a0_0, .int .i64 a0_1, .bool a0_2, .slice A0_3 l0_3.length c0_3] 29 (0, 0)) (by (with_reducible repeat (first | refine uH ?_ _ | refine uJ ?_ | refine uG ?_ _)); exact BK262.out) hb); replace BK273 := uD (blk_below (g := gb273) (o := .cells #[.int .i64 t264, .int .i64 t265, .bool t266, .slice Ao23 t267.length co23] 29 (0, 0)) (by (with_reducible repeat (first | refine uH ?_ _ | refine uJ ?_ | refine uG ?_ _)); exact BK273.out) hb); replace BK283 := uD (blk_below (g := gb283) (o := .cells #[.int .i64 t274, .int .i64 t275, .bool t276, .slice Ao30 t277.length co30] 29 (0, 0)) (by (with_reducible repeat (first | refine uH ?_ _ | refine uJ ?_ | refine uG ?_ _)); exact BK283.out) hb); replace HB := uD (uO (by repeat (first | (with_reducible first | exact HB.out | apply uL | apply uE | apply uK | refine uM ?_ GE262.out | refine uM ?_ GE273.out | refine uM ?_ GE283.out) | exact HB.out)) hb); (try clear hb); (try clear hb2); (try clear hk); (try clear hi); have hcz78_0 : w77.cell? ⟨gb273, 0, none⟩ = some (.int .i64 t264) := (uF BK273.out 0).trans rfl; have hcz78_1 : w77.cell? ⟨gb273, 1, none⟩ = some (.int .i64 t265) := (uF BK273.out 1).trans rfl; have hcz78_2 : w77.cell? ⟨gb273, 2, none⟩ = some (.bool t266) := (uF BK273.out 2).trans rfl; have hcz78_3 : w77.cell? ⟨gb273, 3, none⟩ = some (.slice Ao23 t267.length co23) := (uF BK273.out 3).trans rfl; have hfz78_0 := uI BK273.out 0; have hfz78_1 := uI BK273.out 1; have hfz78_2 := uI BK273.out 2; have hfz78_3 := uI BK273.out 3; have hcz79_0 : w77.cell? ⟨gb262, 0, none⟩ = some (.int .i64 a0_0) := (uF BK262.out 0).trans rfl; have hcz79_1 : w77.cell? ⟨gb262, 1, none⟩ = some (.int .i64 a0_1) := (uF BK262.out 1).trans rfl; have hcz79_2 : w77.cell? ⟨gb262, 2, none⟩ = some (.bool a0_2) := (uF BK262.out 2).trans rfl; have hcz79_3 : w77.cell? ⟨gb262, 3, none⟩ = some (.slice A0_3 l0_3.length c0_3) := (uF BK262.out 3).trans rfl; have hfz79_0 := uI BK262.out 0; have hfz79_1 := uI BK262.out 1; have hfz79_2 := uI BK262.out 2; have hfz79_3 := uI BK262.out 3)); try go_wp2_with (first | (go_at_call 18; (with_reducible refine (impl_BeltOk.calls k3 t264 t265 t266 _ _ t267 true _ ?side1 ?side2 A69.out).mono ?_); (case side1 => repeat (first | exact (Kd.Q_reads' HO_274003.out).2.2 | (with_reducible refine Kd.C_alloc ?_ _) | (with_reducible refine Kd.C_drewN ?_ _) | (with_reducible refine Kd.C_drew ?_))); (case side2 => exact (Kd.Q_reads' HO_274003.out).2.1); rintro e w77 ⟨rfl, hb⟩; replace HO_6 := uD (Kd.R_below (by (with_reducible repeat (first | apply uU | apply uS | apply uT)); exact HO_6.out) hb); replace HO_274003 := uD (Kd.Q_below (by (with_reducible repeat (first | apply Kd.Q_alloc | apply Kd.Q_drewN | apply Kd.Q_drew)); exact HO_274003.out) hb); replace HO_284003 := uD (Kd.Q_below (by (with_reducible repeat (first | apply Kd.Q_alloc | apply Kd.Q_drewN | apply Kd.Q_drew)); exact HO_284003.out) hb); replace BK262 := uD (blk_below (g := gb262) (o := .cells #[.int .i64 a0_0, .int .i64 a0_1, .bool a0_2, .slice A0_3 l0_3.length c0_3] 29 (0, 0)) (by (with_reducible repeat (first | refine uH ?_ _ | refine uJ ?_ | refine uG ?_ _)); exact BK262.out) hb); replace BK273 := uD (blk_below (g := gb273) (o := .cells #[.int .i64 t264, .int .i64 t265, .bool t266, .slice Ao23 t267.length co23] 29 (0, 0)) (by (with_reducible repeat (first | refine uH ?_ _ | refine uJ ?_ | refine uG ?_ _)); exact BK273.out) hb); replace BK283 := uD (blk_below (g := gb283) (o := .cells #[.int .i64 t274, .int .i64 t275, .bool t276, .slice Ao30 t277.length co30] 29 (0, 0)) (by (with_reducible repeat (first | refine uH ?_ _ | refine uJ ?_ | refine uG ?_ _)); exact BK283.out) hb); replace HB := uD (uO (by repeat (first | (with_reducible first | exact HB.out | apply uL | apply uE | apply uK | refine uM ?_ GE262.out | refine uM ?_ GE273.out | refine uM ?_ GE283.out) | exact HB.out)) hb); (try clear hb); (try clear hb2); (try clear hk); (try clear hi); have hcz78_0 : w77.cell? ⟨gb273, 0, none⟩ = some (.int .i64 t264) := (uF BK273.out 0).trans rfl; have hcz78_1 : w77.cell? ⟨gb273, 1, none⟩ = some (.int .i64 t265) := (uF BK273.out 1).trans rfl; have hcz78_2 : w77.cell? ⟨gb273, 2, none⟩ = some (.bool t266) := (uF BK273.out 2).trans rfl; have hcz78_3 : w77.cell? ⟨gb273, 3, none⟩ = some (.slice Ao23 t267.length co23) := (uF BK273.out 3).trans rfl; have hfz78_0 := uI BK273.out 0; have hfz78_1 := uI BK273.out 1; have hfz78_2 := uI BK273.out 2; have hfz78_3 := uI BK273.out 3; have hcz79_0 : w77.cell? ⟨gb262, 0, none⟩ = some (.int .i64 a0_0) := (uF BK262.out 0).trans rfl; have hcz79_1 : w77.cell? ⟨gb262, 1, none⟩ = some (.int .i64 a0_1) := (uF BK262.out 1).trans rfl; have hcz79_2 : w77.cell? ⟨gb262, 2, none⟩ = some (.bool a0_2) := (uF BK262.out 2).trans rfl; have hcz79_3 : w77.cell? ⟨gb262, 3, none⟩ = some (.slice A0_3 l0_3.length c0_3) := (uF BK262.out 3).trans rfl; have hfz79_0 := uI BK262.out 0; have hfz79_1 := uI BK262.out 1; have hfz79_2 := uI BK262.out 2; have hfz79_3 := uI BK262.out 3)))
            go_ret
            exact ⟨by first | rfl | (simp [errW_none, errW_some] <;> rfl) | (simp [*, errW_none, errW_some] <;> rfl), by repeat (first | (with_reducible first | exact HB.out | apply uL | apply uE | apply uK | refine uM ?_ GE262.out | refine uM ?_ GE273.out | refine uM ?_ GE283.out) | exact HB.out)⟩
           ·replace c70 := Bool.eq_false_iff.mpr c70
            subst c70
            have H1 : (some false) = some true := by rw [if_neg (show ¬ (false = true) by decide)] at H; first | done | exact H
            clear H
            have H := H1
            clear H1
            exact absurd H (by simp)
          ·rw [if_neg c68] at H
           have c68b0 : (x9_3 == (t270.length : Int)) = false := beq_eq_false_iff_ne.mpr c68
           have c68b1 : (x9_3 != (t270.length : Int)) = true := bne_iff_ne.mpr c68
           exact absurd H (by simp)

/-- THE ONE PURE STATEMENT of laws_FnBeltRuns. -/
def laws_FnBeltRuns.Pure : Prop := ∀ (a0_0 : Int) (a0_1 : Int) (a0_2 : Bool) (l0_3 : List (S53)) (a1 : Int), (Lit.int .i64 a0_0).wf = true → (Lit.int .i64 a0_1).wf = true → l0_3.length ≤ 9223372036854775807 → (∀ y ∈ l0_3, (Lit.int .i64 y.f0).wf = true ∧ (Lit.int .i64 y.f1).wf = true ∧ (Lit.int .i64 y.f2).wf = true) → (Lit.int .i64 a1).wf = true → ∃ k, laws_FnBeltRuns.f k a0_0 a0_1 a0_2 l0_3 a1 = some true

end Go.Proofs.Ytbdjbdoelbmjcaa.PFnBeltRuns
