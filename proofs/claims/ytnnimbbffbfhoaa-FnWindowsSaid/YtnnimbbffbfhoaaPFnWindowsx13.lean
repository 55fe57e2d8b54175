-- Written by a program of this session (wip/myprint.py: the kit's print with changes): not by print.sh itself.
import Derived.Test.YtnnimbbffbfhoaaPFnWindowsx0
import Derived.Test.YtnnimbbffbfhoaaPFnWindowsx2
import Derived.Test.YtnnimbbffbfhoaaPFnWindowsx4
import Derived.Test.YtnnimbbffbfhoaaPFnWindowsx7
import Derived.Test.YtnnimbbffbfhoaaPFnWindowsx9
import Derived.Test.YtnnimbbffbfhoaaPFnWindowsx10
import Derived.Test.YtnnimbbffbfhoaaPFnWindowsx12
namespace Go.Proofs.Ytnnimbbffbfhoaa.PFnWindows
open Go.RowKit Go.Proofs.YtnnimbbffbfhoaaW.PrintWords Go.Proofs.YtnnimbbffbfhoaaW.PrintLast Go.Proofs.YtnnimbbffbfhoaaW.PrintMore
open Go renaming Act.put → uc
open Go.Proofs.YtnnimbbffbfhoaaW.PrintLast renaming any_of → uY, i64_w → uZ, i32_w → ua, pure_ → ub
open Go.Proofs.YtnnimbbffbfhoaaW.PrintWords renaming Aside0.mk → uD, pw_below_drewN → uE, blk_cell → uF, blk_alloc → uG, blk_drewN → uH, blk_frozen → uI, blk_drew → uJ, below_drew1 → uK, below_alloc → uL, below_set → uM, below_size → uN, below_step → uO, blk_put → uP, blk_far → uQ, Kd.R_drewN → uS, Kd.R_drew → uT, Kd.R_alloc → uU, Kd.R_far → uV, Kd.R_types → uW, Kd.R_mono → uX
open List renaming setIfInBounds_toArray → uA, set_cons_zero → uB, set_cons_succ → uC
attribute [local go_sem] max2_int min2_int max_two min_two max_three min_three max_four min_four   -- for this text's walks alone
set_option linter.unusedVariables false
set_option linter.unusedSimpArgs false

/-! ### laws_FnWindows: function 11 -/
mutual
def laws_FnWindows.j0 : Nat → Int → Int → List (S47) → List (S47) → Bool → Int → Int → Bool → List (S74) → Option (Bool)
 | 0, _, _, _, _, _, _, _, _, _ => none
 | k + 1, x5, x6, x7, x11, x77, x331000, x331001, x331002, x331003 => if x77 = true then (some false) else (laws_FnWindows.l0 k x5 x6 x7 x11 0 x331000 x331001 x331002 x331003)
def laws_FnWindows.l0 : Nat → Int → Int → List (S47) → List (S47) → Int → Int → Int → Bool → List (S74) → Option (Bool)
 | 0, _, _, _, _, _, _, _, _, _ => none
 | k + 1, x5, x6, x7, x11, x13, x331000, x331001, x331002, x331003 => if x13 < (x7.length : Int) then (if 0 ≤ x13 then ((spec_Run.f k x331000 x331001 x331002 x331003 (wrap64 (((rd_T47 x7 x13).f1) - x6))).bind fun bt351 => (laws_FnWindows.l1 k x5 x6 x7 x11 x13 false 0 x331000 x331001 x331002 x331003 bt351.1 bt351.2.1 bt351.2.2.1 bt351.2.2.2.1)) else (none)) else ((impl_ExpectOk.f x7).bind fun t349 => (some t349))
def laws_FnWindows.l1 : Nat → Int → Int → List (S47) → List (S47) → Int → Bool → Int → Int → Int → Bool → List (S74) → Int → Int → Bool → List (S74) → Option (Bool)
 | 0, _, _, _, _, _, _, _, _, _, _, _, _, _, _, _ => none
 | k + 1, x5, x6, x7, x11, x13, x16, x17, x331000, x331001, x331002, x331003, x361000, x361001, x361002, x361003 => if x17 < (x361003.length : Int) then (if x16 = true then (laws_FnWindows.l1 k x5 x6 x7 x11 x13 true (wrap64 (x17 + 1)) x331000 x331001 x331002 x331003 x361000 x361001 x361002 x361003) else (if 0 ≤ x17 then (if 0 ≤ x13 then (if x13 < (x7.length : Int) then (if ((rd_T74 x361003 x17).f0) = ((rd_T47 x7 x13).f0) then (laws_FnWindows.l1 k x5 x6 x7 x11 x13 (((rd_T74 x361003 x17).f1) == x5) (wrap64 (x17 + 1)) x331000 x331001 x331002 x331003 x361000 x361001 x361002 x361003) else (laws_FnWindows.l1 k x5 x6 x7 x11 x13 false (wrap64 (x17 + 1)) x331000 x331001 x331002 x331003 x361000 x361001 x361002 x361003)) else (none)) else (none)) else (none))) else (if x16 = true then (if 0 ≤ x13 then (if x13 < (x11.length : Int) then (if x13 < (x7.length : Int) then (if ((rd_T47 x11 x13).f1) = (mx 0 (wrap64 (((rd_T47 x7 x13).f1) - 7))) then (if ((rd_T47 x11 x13).f2) = (wrap64 (((rd_T47 x7 x13).f2) + 7)) then (if ((rd_T47 x11 x13).f0) = ((rd_T47 x7 x13).f0) then (laws_FnWindows.l0 k x5 x6 x7 x11 (wrap64 (x13 + 1)) x331000 x331001 x331002 x331003) else (some false)) else (some false)) else (some false)) else (none)) else (none)) else (none)) else (some false))
end
def laws_FnWindows.f (k : Nat) (l0 : List Int) : Option (Bool) := (laws_big.f l0).bind fun t323 => (if t323 = true then (some true) else ((spec_DrawBelt.f k l0).bind fun bt324 => ((spec_DrawPlaces.f k l0).bind fun t331 => (if 0 < (t331.length : Int) then (if bt324.1 = 0 then (none) else (if 1 < (t331.length : Int) then ((impl_Windows.f k bt324.1 bt324.2.1 false bt324.2.2.2 (wrap64 (1 + (Int.tmod (rd t331 0) bt324.1))) (Int.tmod (rd t331 1) 1000) 0).bind fun bt336 => ((spec_Windows.f k bt324.1 bt324.2.1 false bt324.2.2.2 (wrap64 (1 + (Int.tmod (rd t331 0) bt324.1))) (Int.tmod (rd t331 1) 1000) 0).bind fun bt340 => ((impl_Windows.f k bt324.1 bt324.2.1 false bt324.2.2.2 (wrap64 (1 + (Int.tmod (rd t331 0) bt324.1))) (Int.tmod (rd t331 1) 1000) 7).bind fun bt344 => (if (bt336.2 != bt340.2) = true then (laws_FnWindows.j0 k (wrap64 (1 + (Int.tmod (rd t331 0) bt324.1))) (Int.tmod (rd t331 1) 1000) bt336.1 bt344.1 true bt324.1 bt324.2.1 false bt324.2.2.2) else (if (bt344.2 != bt340.2) = true then (laws_FnWindows.j0 k (wrap64 (1 + (Int.tmod (rd t331 0) bt324.1))) (Int.tmod (rd t331 1) 1000) bt336.1 bt344.1 true bt324.1 bt324.2.1 false bt324.2.2.2) else (if (bt344.1.length : Int) = (bt340.1.length : Int) then ((laws_sameExpects.f k bt336.1 bt340.1).bind fun t348 => (laws_FnWindows.j0 k (wrap64 (1 + (Int.tmod (rd t331 0) bt324.1))) (Int.tmod (rd t331 1) 1000) bt336.1 bt344.1 (!t348) bt324.1 bt324.2.1 false bt324.2.2.2)) else (laws_FnWindows.j0 k (wrap64 (1 + (Int.tmod (rd t331 0) bt324.1))) (Int.tmod (rd t331 1) 1000) bt336.1 bt344.1 true bt324.1 bt324.2.1 false bt324.2.2.2))))))) else (none))) else (none)))))
theorem laws_FnWindows.mono_l : ∀ k, (∀ y0 y1 y2 y3 y4 y5 y6 y7 y8, LeO (laws_FnWindows.j0 k y0 y1 y2 y3 y4 y5 y6 y7 y8) (laws_FnWindows.j0 (k + 1) y0 y1 y2 y3 y4 y5 y6 y7 y8)) ∧ (∀ y0 y1 y2 y3 y4 y5 y6 y7 y8, LeO (laws_FnWindows.l0 k y0 y1 y2 y3 y4 y5 y6 y7 y8) (laws_FnWindows.l0 (k + 1) y0 y1 y2 y3 y4 y5 y6 y7 y8)) ∧ (∀ y0 y1 y2 y3 y4 y5 y6 y7 y8 y9 y10 y11 y12 y13 y14, LeO (laws_FnWindows.l1 k y0 y1 y2 y3 y4 y5 y6 y7 y8 y9 y10 y11 y12 y13 y14) (laws_FnWindows.l1 (k + 1) y0 y1 y2 y3 y4 y5 y6 y7 y8 y9 y10 y11 y12 y13 y14))
 | 0 => ⟨fun _ _ _ _ _ _ _ _ _ r h => by simp [laws_FnWindows.j0] at h, fun _ _ _ _ _ _ _ _ _ r h => by simp [laws_FnWindows.l0] at h, fun _ _ _ _ _ _ _ _ _ _ _ _ _ _ _ r h => by simp [laws_FnWindows.l1] at h⟩
 | k + 1 => by
  obtain ⟨ih0, ih1, ih2⟩ := laws_FnWindows.mono_l k
  refine ⟨?_, ?_, ?_⟩
  ·intro y0 y1 y2 y3 y4 y5 y6 y7 y8
   unfold laws_FnWindows.j0
   repeat' first
   | (with_reducible exact ih0 _ _ _ _ _ _ _ _ _)
   | (with_reducible exact ih1 _ _ _ _ _ _ _ _ _)
   | (with_reducible exact ih2 _ _ _ _ _ _ _ _ _ _ _ _ _ _ _)
   | (with_reducible exact impl_Windows.mono _ _ _ _ _ _ _ _)
   | (with_reducible exact laws_sameExpects.mono _ _ _)
   | (with_reducible exact spec_DrawBelt.mono _ _)
   | (with_reducible exact spec_DrawPlaces.mono _ _)
   | (with_reducible exact spec_Run.mono _ _ _ _ _ _)
   | (with_reducible exact spec_Windows.mono _ _ _ _ _ _ _ _)
   | (with_reducible exact LeO.refl _)
   | (with_reducible exact LeO.none _)
   | (with_reducible refine LeO.ite ?_ ?_)
   | (with_reducible refine LeO.bind ?_ (fun _ => ?_))
   | exact ih0 _ _ _ _ _ _ _ _ _
   | exact ih1 _ _ _ _ _ _ _ _ _
   | exact ih2 _ _ _ _ _ _ _ _ _ _ _ _ _ _ _
   | exact impl_Windows.mono _ _ _ _ _ _ _ _
   | exact laws_sameExpects.mono _ _ _
   | exact spec_DrawBelt.mono _ _
   | exact spec_DrawPlaces.mono _ _
   | exact spec_Run.mono _ _ _ _ _ _
   | exact spec_Windows.mono _ _ _ _ _ _ _ _
   | exact LeO.none _
   | refine LeO.ite ?_ ?_
   | refine LeO.bind ?_ (fun _ => ?_)
  ·intro y0 y1 y2 y3 y4 y5 y6 y7 y8
   unfold laws_FnWindows.l0
   repeat' first
   | (with_reducible exact ih0 _ _ _ _ _ _ _ _ _)
   | (with_reducible exact ih1 _ _ _ _ _ _ _ _ _)
   | (with_reducible exact ih2 _ _ _ _ _ _ _ _ _ _ _ _ _ _ _)
   | (with_reducible exact impl_Windows.mono _ _ _ _ _ _ _ _)
   | (with_reducible exact laws_sameExpects.mono _ _ _)
   | (with_reducible exact spec_DrawBelt.mono _ _)
   | (with_reducible exact spec_DrawPlaces.mono _ _)
   | (with_reducible exact spec_Run.mono _ _ _ _ _ _)
   | (with_reducible exact spec_Windows.mono _ _ _ _ _ _ _ _)
   | (with_reducible exact LeO.refl _)
   | (with_reducible exact LeO.none _)
   | (with_reducible refine LeO.ite ?_ ?_)
   | (with_reducible refine LeO.bind ?_ (fun _ => ?_))
   | exact ih0 _ _ _ _ _ _ _ _ _
   | exact ih1 _ _ _ _ _ _ _ _ _
   | exact ih2 _ _ _ _ _ _ _ _ _ _ _ _ _ _ _
   | exact impl_Windows.mono _ _ _ _ _ _ _ _
   | exact laws_sameExpects.mono _ _ _
   | exact spec_DrawBelt.mono _ _
   | exact spec_DrawPlaces.mono _ _
   | exact spec_Run.mono _ _ _ _ _ _
   | exact spec_Windows.mono _ _ _ _ _ _ _ _
   | exact LeO.none _
   | refine LeO.ite ?_ ?_
   | refine LeO.bind ?_ (fun _ => ?_)
  ·intro y0 y1 y2 y3 y4 y5 y6 y7 y8 y9 y10 y11 y12 y13 y14
   unfold laws_FnWindows.l1
   repeat' first
   | (with_reducible exact ih0 _ _ _ _ _ _ _ _ _)
   | (with_reducible exact ih1 _ _ _ _ _ _ _ _ _)
   | (with_reducible exact ih2 _ _ _ _ _ _ _ _ _ _ _ _ _ _ _)
   | (with_reducible exact impl_Windows.mono _ _ _ _ _ _ _ _)
   | (with_reducible exact laws_sameExpects.mono _ _ _)
   | (with_reducible exact spec_DrawBelt.mono _ _)
   | (with_reducible exact spec_DrawPlaces.mono _ _)
   | (with_reducible exact spec_Run.mono _ _ _ _ _ _)
   | (with_reducible exact spec_Windows.mono _ _ _ _ _ _ _ _)
   | (with_reducible exact LeO.refl _)
   | (with_reducible exact LeO.none _)
   | (with_reducible refine LeO.ite ?_ ?_)
   | (with_reducible refine LeO.bind ?_ (fun _ => ?_))
   | exact ih0 _ _ _ _ _ _ _ _ _
   | exact ih1 _ _ _ _ _ _ _ _ _
   | exact ih2 _ _ _ _ _ _ _ _ _ _ _ _ _ _ _
   | exact impl_Windows.mono _ _ _ _ _ _ _ _
   | exact laws_sameExpects.mono _ _ _
   | exact spec_DrawBelt.mono _ _
   | exact spec_DrawPlaces.mono _ _
   | exact spec_Run.mono _ _ _ _ _ _
   | exact spec_Windows.mono _ _ _ _ _ _ _ _
   | exact LeO.none _
   | refine LeO.ite ?_ ?_
   | refine LeO.bind ?_ (fun _ => ?_)
theorem laws_FnWindows.mono : ∀ a0 k, LeO (laws_FnWindows.f k a0) (laws_FnWindows.f (k + 1) a0) := by
 intro a0 k
 obtain ⟨ih0, ih1, ih2⟩ := laws_FnWindows.mono_l k
 unfold laws_FnWindows.f
 repeat' first
   | (with_reducible exact ih0 _ _ _ _ _ _ _ _ _)
   | (with_reducible exact ih1 _ _ _ _ _ _ _ _ _)
   | (with_reducible exact ih2 _ _ _ _ _ _ _ _ _ _ _ _ _ _ _)
   | (with_reducible exact impl_Windows.mono _ _ _ _ _ _ _ _)
   | (with_reducible exact laws_sameExpects.mono _ _ _)
   | (with_reducible exact spec_DrawBelt.mono _ _)
   | (with_reducible exact spec_DrawPlaces.mono _ _)
   | (with_reducible exact spec_Run.mono _ _ _ _ _ _)
   | (with_reducible exact spec_Windows.mono _ _ _ _ _ _ _ _)
   | (with_reducible exact LeO.refl _)
   | (with_reducible exact LeO.none _)
   | (with_reducible refine LeO.ite ?_ ?_)
   | (with_reducible refine LeO.bind ?_ (fun _ => ?_))
   | exact ih0 _ _ _ _ _ _ _ _ _
   | exact ih1 _ _ _ _ _ _ _ _ _
   | exact ih2 _ _ _ _ _ _ _ _ _ _ _ _ _ _ _
   | exact impl_Windows.mono _ _ _ _ _ _ _ _
   | exact laws_sameExpects.mono _ _ _
   | exact spec_DrawBelt.mono _ _
   | exact spec_DrawPlaces.mono _ _
   | exact spec_Run.mono _ _ _ _ _ _
   | exact spec_Windows.mono _ _ _ _ _ _ _ _
   | exact LeO.none _
   | refine LeO.ite ?_ ?_
   | refine LeO.bind ?_ (fun _ => ?_)
def laws_FnWindows.T6 : Bool × List (List Nat × List Nat) := (true, [([], []), ([0], [0]), ([1], [1]), ([], []), ([3], [3]), ([2, 4], [2, 4]), ([5], [5]), ([6, 0, 1, 2, 3, 4, 5, 6], [6])])
def laws_FnWindows.B6 : List Nat := [0, 1, 3, 0, 8, 31, 63, 127]
theorem laws_FnWindows.tab6 : rtab .any (opsOf Try.f11 6) = laws_FnWindows.T6 := by kernel_rfl
theorem laws_FnWindows.bits6 : waitsOk laws_FnWindows.T6.2 laws_FnWindows.B6 = true := by kernel_rfl
def laws_FnWindows.T16 : Bool × List (List Nat × List Nat) := (true, [([], []), ([], []), ([], []), ([1, 2], [1, 2]), ([3], [3]), ([4], [4]), ([], []), ([5, 6], [5, 6]), ([0, 7], [0, 7]), ([8], [8]), ([9], [9]), ([9], [9]), ([], []), ([12, 10, 8, 0, 1, 2, 3, 4, 5, 6, 7, 8, 9, 10, 12], [10, 12]), ([11, 13, 0, 1, 2, 3, 4, 5, 6, 7, 8, 9, 10, 11, 12, 13], [11])])
def laws_FnWindows.B16 : List Nat := [0, 0, 0, 6, 14, 30, 0, 126, 255, 511, 1023, 1023, 0, 6143, 16383]
theorem laws_FnWindows.tab16 : rtab .any (opsOf Try.f11 16) = laws_FnWindows.T16 := by kernel_rfl
theorem laws_FnWindows.bits16 : waitsOk laws_FnWindows.T16.2 laws_FnWindows.B16 = true := by kernel_rfl
def laws_FnWindows.T21 : Bool × List (List Nat × List Nat) := (true, [([], []), ([0], [0]), ([1], [1]), ([2, 1], [1, 2]), ([1], [1]), ([3, 4, 1], [1, 3, 4]), ([5, 1], [1, 5]), ([6, 1], [1, 6]), ([1], [1]), ([1], [1]), ([8, 9, 1], [1, 8, 9]), ([10, 1], [1, 10]), ([11, 1], [1, 11]), ([7, 12, 1], [1, 7, 12]), ([13, 1, 1], [1, 13]), ([14], [14]), ([15, 14], [14, 15]), ([14], [14]), ([16, 17, 14], [14, 16, 17]), ([18, 14], [14, 18]), ([19, 14], [14, 19]), ([14], [14]), ([20, 21, 14], [14, 20, 21]), ([14, 22, 1], [1, 14, 22]), ([1, 23], [1, 23]), ([24, 14, 0, 1, 2, 3, 4, 5, 6, 7, 8, 9, 10, 11, 12, 13, 14, 15, 16, 17, 18, 19, 20, 21, 22, 23, 24], [0, 24])])
def laws_FnWindows.B21 : List Nat := [0, 1, 3, 7, 3, 31, 63, 127, 3, 3, 771, 1795, 3843, 8191, 16383, 32767, 65535, 32767, 262143, 524287, 1048575, 32767, 4194303, 8388607, 16777215, 33554431]
theorem laws_FnWindows.tab21 : rtab .any (opsOf Try.f11 21) = laws_FnWindows.T21 := by kernel_rfl
theorem laws_FnWindows.bits21 : waitsOk laws_FnWindows.T21.2 laws_FnWindows.B21 = true := by kernel_rfl
def laws_FnWindows.T22 : Bool × List (List Nat × List Nat) := (true, [([], []), ([0], [0]), ([1], [1]), ([2], [2]), ([2], [2]), ([3, 4, 2], [2, 3, 4]), ([5, 2], [2, 5]), ([6, 2], [2, 6]), ([2], [2]), ([2], [2]), ([8, 9, 2], [2, 8, 9]), ([10, 2], [2, 10]), ([11, 2], [2, 11]), ([12, 2], [2, 12]), ([13, 2], [2, 13]), ([7, 14, 2], [2, 7, 14]), ([2, 15], [2, 15]), ([16, 2], [16]), ([17], [17]), ([17], [17]), ([18, 19, 17], [17, 18, 19]), ([20, 17], [17, 20]), ([21, 17], [17, 21]), ([17], [17]), ([17], [17]), ([23, 24, 17], [17, 23, 24]), ([25, 17], [17, 25]), ([26, 17], [17, 26]), ([27, 17], [17, 27]), ([22, 28, 17], [17, 22, 28]), ([17, 29], [17, 29]), ([30, 17], [30]), ([31], [31]), ([31], [31]), ([32, 33, 31], [31, 32, 33]), ([34, 31], [31, 34]), ([35, 31], [31, 35]), ([31], [31]), ([31], [31]), ([37, 38, 31], [31, 37, 38]), ([39, 31], [31, 39]), ([40, 31], [31, 40]), ([36, 41, 31], [31, 36, 41]), ([31, 42], [31, 42])])
def laws_FnWindows.B22 : List Nat := [0, 1, 3, 7, 7, 31, 63, 127, 7, 7, 775, 1799, 3847, 7943, 16135, 32767, 65535, 131071, 262143, 262143, 1048575, 2097151, 4194303, 262143, 262143, 25427967, 58982399, 126091263, 260308991, 536870911, 1073741823, 2147483647, 4294967295, 4294967295, 17179869183, 34359738367, 68719476735, 4294967295, 4294967295, 416611827711, 966367641599, 2065879269375, 4398046511103, 8796093022207]
theorem laws_FnWindows.tab22 : rtab .any (opsOf Try.f11 22) = laws_FnWindows.T22 := by kernel_rfl
theorem laws_FnWindows.bits22 : waitsOk laws_FnWindows.T22.2 laws_FnWindows.B22 = true := by kernel_rfl
set_option maxHeartbeats 8000000 in
set_option maxRecDepth 100000 in
theorem laws_FnWindows.calls (k : Nat) (A0 : Option Addr) (c0 : Nat) (l0 : List Int) (w : World) (hr0 : Kd.C (Kd.int .u8) w A0 l0.length l0) (hc0 : l0.length ≤ c0) (h : laws_FnWindows.f k l0 = some true) :
  Calls Try.prog 11 #[.slice A0 l0.length c0] w fun e w' => e = .returned (.bool true) ∧ Below w.heap.size w w' := by
 have hu63 := Try.underlying63
 have HR0 := uD hr0
 have HC0 := uD hc0
 clear hr0 hc0
 have HB := uD (Below.refl w.heap.size w)
 have H : ((laws_big.f l0).bind fun t323 => (if t323 = true then (some true) else ((spec_DrawBelt.f k l0).bind fun bt324 => ((spec_DrawPlaces.f k l0).bind fun t331 => (if 0 < (t331.length : Int) then (if bt324.1 = 0 then (none) else (if 1 < (t331.length : Int) then ((impl_Windows.f k bt324.1 bt324.2.1 false bt324.2.2.2 (wrap64 (1 + (Int.tmod (rd t331 0) bt324.1))) (Int.tmod (rd t331 1) 1000) 0).bind fun bt336 => ((spec_Windows.f k bt324.1 bt324.2.1 false bt324.2.2.2 (wrap64 (1 + (Int.tmod (rd t331 0) bt324.1))) (Int.tmod (rd t331 1) 1000) 0).bind fun bt340 => ((impl_Windows.f k bt324.1 bt324.2.1 false bt324.2.2.2 (wrap64 (1 + (Int.tmod (rd t331 0) bt324.1))) (Int.tmod (rd t331 1) 1000) 7).bind fun bt344 => (if (bt336.2 != bt340.2) = true then (laws_FnWindows.j0 k (wrap64 (1 + (Int.tmod (rd t331 0) bt324.1))) (Int.tmod (rd t331 1) 1000) bt336.1 bt344.1 true bt324.1 bt324.2.1 false bt324.2.2.2) else (if (bt344.2 != bt340.2) = true then (laws_FnWindows.j0 k (wrap64 (1 + (Int.tmod (rd t331 0) bt324.1))) (Int.tmod (rd t331 1) 1000) bt336.1 bt344.1 true bt324.1 bt324.2.1 false bt324.2.2.2) else (if (bt344.1.length : Int) = (bt340.1.length : Int) then ((laws_sameExpects.f k bt336.1 bt340.1).bind fun t348 => (laws_FnWindows.j0 k (wrap64 (1 + (Int.tmod (rd t331 0) bt324.1))) (Int.tmod (rd t331 1) 1000) bt336.1 bt344.1 (!t348) bt324.1 bt324.2.1 false bt324.2.2.2)) else (laws_FnWindows.j0 k (wrap64 (1 + (Int.tmod (rd t331 0) bt324.1))) (Int.tmod (rd t331 1) 1000) bt336.1 bt344.1 true bt324.1 bt324.2.1 false bt324.2.2.2))))))) else (none))) else (none)))))) = some true := h
 clear h
 replace H := Option.bind_eq_some_iff.mp H
 obtain ⟨t323, A20, H⟩ := H
 replace H : (if t323 = true then (some true) else ((spec_DrawBelt.f k l0).bind fun bt324 => ((spec_DrawPlaces.f k l0).bind fun t331 => (if 0 < (t331.length : Int) then (if bt324.1 = 0 then (none) else (if 1 < (t331.length : Int) then ((impl_Windows.f k bt324.1 bt324.2.1 false bt324.2.2.2 (wrap64 (1 + (Int.tmod (rd t331 0) bt324.1))) (Int.tmod (rd t331 1) 1000) 0).bind fun bt336 => ((spec_Windows.f k bt324.1 bt324.2.1 false bt324.2.2.2 (wrap64 (1 + (Int.tmod (rd t331 0) bt324.1))) (Int.tmod (rd t331 1) 1000) 0).bind fun bt340 => ((impl_Windows.f k bt324.1 bt324.2.1 false bt324.2.2.2 (wrap64 (1 + (Int.tmod (rd t331 0) bt324.1))) (Int.tmod (rd t331 1) 1000) 7).bind fun bt344 => (if (bt336.2 != bt340.2) = true then (laws_FnWindows.j0 k (wrap64 (1 + (Int.tmod (rd t331 0) bt324.1))) (Int.tmod (rd t331 1) 1000) bt336.1 bt344.1 true bt324.1 bt324.2.1 false bt324.2.2.2) else (if (bt344.2 != bt340.2) = true then (laws_FnWindows.j0 k (wrap64 (1 + (Int.tmod (rd t331 0) bt324.1))) (Int.tmod (rd t331 1) 1000) bt336.1 bt344.1 true bt324.1 bt324.2.1 false bt324.2.2.2) else (if (bt344.1.length : Int) = (bt340.1.length : Int) then ((laws_sameExpects.f k bt336.1 bt340.1).bind fun t348 => (laws_FnWindows.j0 k (wrap64 (1 + (Int.tmod (rd t331 0) bt324.1))) (Int.tmod (rd t331 1) 1000) bt336.1 bt344.1 (!t348) bt324.1 bt324.2.1 false bt324.2.2.2)) else (laws_FnWindows.j0 k (wrap64 (1 + (Int.tmod (rd t331 0) bt324.1))) (Int.tmod (rd t331 1) 1000) bt336.1 bt344.1 true bt324.1 bt324.2.1 false bt324.2.2.2))))))) else (none))) else (none))))) = some true := H
 have A2 := uD A20
 clear A20
 by_cases c3 : t323 = true
 ·subst c3
  have H1 : (some true) = some true := by rw [if_pos rfl] at H; first | done | exact H
  clear H
  have H := H1
  clear H1
  have HT := Option.some.inj H
  clear H
  go_enter Try.func11, Try.ntmps11
  go_wp2_with (first | ((with_reducible refine gate_callee (f := 34) rfl ?_); refine goesL_ (some 19) rfl rfl Try.func34 (by kernel_rfl) rfl #[.slice A0 l0.length c0] rfl (by (try simp only [List.map_toArray, List.map_cons, List.map_nil]); first | done | rfl | (simp only [List.length_drop, List.length_take]; rfl)) ?_; (with_reducible refine (laws_big.calls _ _ l0 true _ ?side1 ?side2 A2.out).mono ?_); (case side1 => repeat (first | exact HR0.out | (with_reducible refine Kd.C_alloc ?_ _) | (with_reducible refine Kd.C_drewN ?_ _) | (with_reducible refine Kd.C_drew ?_))); (case side2 => exact HC0.out); rintro e w' ⟨rfl, ⟨nd, rfl⟩⟩; refine ⟨_, rfl, ?_⟩))
  go_ret
  exact ⟨by first | rfl | (simp [errW_none, errW_some] <;> rfl) | (simp [*, errW_none, errW_some] <;> rfl), by repeat (first | (with_reducible first | exact HB.out | apply uL | apply uE | apply uK) | exact HB.out)⟩
 ·replace c3 := Bool.eq_false_iff.mpr c3
  subst c3
  have H1 : ((spec_DrawBelt.f k l0).bind fun bt324 => ((spec_DrawPlaces.f k l0).bind fun t331 => (if 0 < (t331.length : Int) then (if bt324.1 = 0 then (none) else (if 1 < (t331.length : Int) then ((impl_Windows.f k bt324.1 bt324.2.1 false bt324.2.2.2 (wrap64 (1 + (Int.tmod (rd t331 0) bt324.1))) (Int.tmod (rd t331 1) 1000) 0).bind fun bt336 => ((spec_Windows.f k bt324.1 bt324.2.1 false bt324.2.2.2 (wrap64 (1 + (Int.tmod (rd t331 0) bt324.1))) (Int.tmod (rd t331 1) 1000) 0).bind fun bt340 => ((impl_Windows.f k bt324.1 bt324.2.1 false bt324.2.2.2 (wrap64 (1 + (Int.tmod (rd t331 0) bt324.1))) (Int.tmod (rd t331 1) 1000) 7).bind fun bt344 => (if (bt336.2 != bt340.2) = true then (laws_FnWindows.j0 k (wrap64 (1 + (Int.tmod (rd t331 0) bt324.1))) (Int.tmod (rd t331 1) 1000) bt336.1 bt344.1 true bt324.1 bt324.2.1 false bt324.2.2.2) else (if (bt344.2 != bt340.2) = true then (laws_FnWindows.j0 k (wrap64 (1 + (Int.tmod (rd t331 0) bt324.1))) (Int.tmod (rd t331 1) 1000) bt336.1 bt344.1 true bt324.1 bt324.2.1 false bt324.2.2.2) else (if (bt344.1.length : Int) = (bt340.1.length : Int) then ((laws_sameExpects.f k bt336.1 bt340.1).bind fun t348 => (laws_FnWindows.j0 k (wrap64 (1 + (Int.tmod (rd t331 0) bt324.1))) (Int.tmod (rd t331 1) 1000) bt336.1 bt344.1 (!t348) bt324.1 bt324.2.1 false bt324.2.2.2)) else (laws_FnWindows.j0 k (wrap64 (1 + (Int.tmod (rd t331 0) bt324.1))) (Int.tmod (rd t331 1) 1000) bt336.1 bt344.1 true bt324.1 bt324.2.1 false bt324.2.2.2))))))) else (none))) else (none)))) = some true := by rw [if_neg (show ¬ (false = true) by decide)] at H; first | done | exact H
  clear H
  have H := H1
  clear H1
  replace H := Option.bind_eq_some_iff.mp H
  obtain ⟨⟨t324, t325, t326, t327⟩, A40, H⟩ := H
  replace H : ((spec_DrawPlaces.f k l0).bind fun t331 => (if 0 < (t331.length : Int) then (if t324 = 0 then (none) else (if 1 < (t331.length : Int) then ((impl_Windows.f k t324 t325 false t327 (wrap64 (1 + (Int.tmod (rd t331 0) t324))) (Int.tmod (rd t331 1) 1000) 0).bind fun bt336 => ((spec_Windows.f k t324 t325 false t327 (wrap64 (1 + (Int.tmod (rd t331 0) t324))) (Int.tmod (rd t331 1) 1000) 0).bind fun bt340 => ((impl_Windows.f k t324 t325 false t327 (wrap64 (1 + (Int.tmod (rd t331 0) t324))) (Int.tmod (rd t331 1) 1000) 7).bind fun bt344 => (if (bt336.2 != bt340.2) = true then (laws_FnWindows.j0 k (wrap64 (1 + (Int.tmod (rd t331 0) t324))) (Int.tmod (rd t331 1) 1000) bt336.1 bt344.1 true t324 t325 false t327) else (if (bt344.2 != bt340.2) = true then (laws_FnWindows.j0 k (wrap64 (1 + (Int.tmod (rd t331 0) t324))) (Int.tmod (rd t331 1) 1000) bt336.1 bt344.1 true t324 t325 false t327) else (if (bt344.1.length : Int) = (bt340.1.length : Int) then ((laws_sameExpects.f k bt336.1 bt340.1).bind fun t348 => (laws_FnWindows.j0 k (wrap64 (1 + (Int.tmod (rd t331 0) t324))) (Int.tmod (rd t331 1) 1000) bt336.1 bt344.1 (!t348) t324 t325 false t327)) else (laws_FnWindows.j0 k (wrap64 (1 + (Int.tmod (rd t331 0) t324))) (Int.tmod (rd t331 1) 1000) bt336.1 bt344.1 true t324 t325 false t327))))))) else (none))) else (none))) = some true := H
  have A4 := uD A40
  clear A40
  replace H := Option.bind_eq_some_iff.mp H
  obtain ⟨t331, A50, H⟩ := H
  replace H : (if 0 < (t331.length : Int) then (if t324 = 0 then (none) else (if 1 < (t331.length : Int) then ((impl_Windows.f k t324 t325 false t327 (wrap64 (1 + (Int.tmod (rd t331 0) t324))) (Int.tmod (rd t331 1) 1000) 0).bind fun bt336 => ((spec_Windows.f k t324 t325 false t327 (wrap64 (1 + (Int.tmod (rd t331 0) t324))) (Int.tmod (rd t331 1) 1000) 0).bind fun bt340 => ((impl_Windows.f k t324 t325 false t327 (wrap64 (1 + (Int.tmod (rd t331 0) t324))) (Int.tmod (rd t331 1) 1000) 7).bind fun bt344 => (if (bt336.2 != bt340.2) = true then (laws_FnWindows.j0 k (wrap64 (1 + (Int.tmod (rd t331 0) t324))) (Int.tmod (rd t331 1) 1000) bt336.1 bt344.1 true t324 t325 false t327) else (if (bt344.2 != bt340.2) = true then (laws_FnWindows.j0 k (wrap64 (1 + (Int.tmod (rd t331 0) t324))) (Int.tmod (rd t331 1) 1000) bt336.1 bt344.1 true t324 t325 false t327) else (if (bt344.1.length : Int) = (bt340.1.length : Int) then ((laws_sameExpects.f k bt336.1 bt340.1).bind fun t348 => (laws_FnWindows.j0 k (wrap64 (1 + (Int.tmod (rd t331 0) t324))) (Int.tmod (rd t331 1) 1000) bt336.1 bt344.1 (!t348) t324 t325 false t327)) else (laws_FnWindows.j0 k (wrap64 (1 + (Int.tmod (rd t331 0) t324))) (Int.tmod (rd t331 1) 1000) bt336.1 bt344.1 true t324 t325 false t327))))))) else (none))) else (none)) = some true := H
  have A5 := uD A50
  clear A50
  by_cases c6 : 0 < (t331.length : Int)
  ·rw [if_pos c6] at H
   have c6b0 : decide (0 < (t331.length : Int)) = true := decide_eq_true c6
   have c6b1 : decide (0 < t331.length) = true := decide_eq_true (by omega)
   clear c6
   by_cases c7 : t324 = 0
   ·rw [if_pos c7] at H
    exact absurd H (by simp)
   ·rw [if_neg c7] at H
    have c7b0 : (t324 == 0) = false := beq_eq_false_iff_ne.mpr c7
    have c7b1 : (t324 != 0) = true := bne_iff_ne.mpr c7
    by_cases c8 : 1 < (t331.length : Int)
    ·rw [if_pos c8] at H
     have c8b0 : decide (1 < (t331.length : Int)) = true := decide_eq_true c8
     have c8b1 : decide (1 < t331.length) = true := decide_eq_true (by omega)
     clear c8
     replace H := Option.bind_eq_some_iff.mp H
     obtain ⟨⟨t336, t339⟩, A90, H⟩ := H
     replace H : ((spec_Windows.f k t324 t325 false t327 (wrap64 (1 + (Int.tmod (rd t331 0) t324))) (Int.tmod (rd t331 1) 1000) 0).bind fun bt340 => ((impl_Windows.f k t324 t325 false t327 (wrap64 (1 + (Int.tmod (rd t331 0) t324))) (Int.tmod (rd t331 1) 1000) 7).bind fun bt344 => (if (t339 != bt340.2) = true then (laws_FnWindows.j0 k (wrap64 (1 + (Int.tmod (rd t331 0) t324))) (Int.tmod (rd t331 1) 1000) t336 bt344.1 true t324 t325 false t327) else (if (bt344.2 != bt340.2) = true then (laws_FnWindows.j0 k (wrap64 (1 + (Int.tmod (rd t331 0) t324))) (Int.tmod (rd t331 1) 1000) t336 bt344.1 true t324 t325 false t327) else (if (bt344.1.length : Int) = (bt340.1.length : Int) then ((laws_sameExpects.f k t336 bt340.1).bind fun t348 => (laws_FnWindows.j0 k (wrap64 (1 + (Int.tmod (rd t331 0) t324))) (Int.tmod (rd t331 1) 1000) t336 bt344.1 (!t348) t324 t325 false t327)) else (laws_FnWindows.j0 k (wrap64 (1 + (Int.tmod (rd t331 0) t324))) (Int.tmod (rd t331 1) 1000) t336 bt344.1 true t324 t325 false t327)))))) = some true := H
     have A9 := uD A90
     clear A90
     replace H := Option.bind_eq_some_iff.mp H
     obtain ⟨⟨t340, t343⟩, A100, H⟩ := H
     replace H : ((impl_Windows.f k t324 t325 false t327 (wrap64 (1 + (Int.tmod (rd t331 0) t324))) (Int.tmod (rd t331 1) 1000) 7).bind fun bt344 => (if (t339 != t343) = true then (laws_FnWindows.j0 k (wrap64 (1 + (Int.tmod (rd t331 0) t324))) (Int.tmod (rd t331 1) 1000) t336 bt344.1 true t324 t325 false t327) else (if (bt344.2 != t343) = true then (laws_FnWindows.j0 k (wrap64 (1 + (Int.tmod (rd t331 0) t324))) (Int.tmod (rd t331 1) 1000) t336 bt344.1 true t324 t325 false t327) else (if (bt344.1.length : Int) = (t340.length : Int) then ((laws_sameExpects.f k t336 t340).bind fun t348 => (laws_FnWindows.j0 k (wrap64 (1 + (Int.tmod (rd t331 0) t324))) (Int.tmod (rd t331 1) 1000) t336 bt344.1 (!t348) t324 t325 false t327)) else (laws_FnWindows.j0 k (wrap64 (1 + (Int.tmod (rd t331 0) t324))) (Int.tmod (rd t331 1) 1000) t336 bt344.1 true t324 t325 false t327))))) = some true := H
     have A10 := uD A100
     clear A100
     replace H := Option.bind_eq_some_iff.mp H
     obtain ⟨⟨t344, t347⟩, A110, H⟩ := H
     replace H : (if (t339 != t343) = true then (laws_FnWindows.j0 k (wrap64 (1 + (Int.tmod (rd t331 0) t324))) (Int.tmod (rd t331 1) 1000) t336 t344 true t324 t325 false t327) else (if (t347 != t343) = true then (laws_FnWindows.j0 k (wrap64 (1 + (Int.tmod (rd t331 0) t324))) (Int.tmod (rd t331 1) 1000) t336 t344 true t324 t325 false t327) else (if (t344.length : Int) = (t340.length : Int) then ((laws_sameExpects.f k t336 t340).bind fun t348 => (laws_FnWindows.j0 k (wrap64 (1 + (Int.tmod (rd t331 0) t324))) (Int.tmod (rd t331 1) 1000) t336 t344 (!t348) t324 t325 false t327)) else (laws_FnWindows.j0 k (wrap64 (1 + (Int.tmod (rd t331 0) t324))) (Int.tmod (rd t331 1) 1000) t336 t344 true t324 t325 false t327)))) = some true := H
     have A11 := uD A110
     clear A110
     have HC12 := uD H
     clear H
     go_enter Try.func11, Try.ntmps11
     try go_wp2_with (first | ((with_reducible refine gate_callee (f := 34) rfl ?_); refine goesL_ (some 19) rfl rfl Try.func34 (by kernel_rfl) rfl #[.slice A0 l0.length c0] rfl (by (try simp only [List.map_toArray, List.map_cons, List.map_nil]); first | done | rfl | (simp only [List.length_drop, List.length_take]; rfl)) ?_; (with_reducible refine (laws_big.calls _ _ l0 false _ ?side1 ?side2 A2.out).mono ?_); (case side1 => repeat (first | exact HR0.out | (with_reducible refine Kd.C_alloc ?_ _) | (with_reducible refine Kd.C_drewN ?_ _) | (with_reducible refine Kd.C_drew ?_))); (case side2 => exact HC0.out); rintro e w' ⟨rfl, ⟨nd, rfl⟩⟩; refine ⟨_, rfl, ?_⟩) | ((with_reducible refine gate_callee (f := 44) rfl ?_); refine goesL_ (some 21) rfl rfl Try.func44 (by kernel_rfl) rfl #[.slice A0 l0.length c0] rfl (by (try simp only [List.map_toArray, List.map_cons, List.map_nil]); first | done | rfl | (simp only [List.length_drop, List.length_take]; rfl)) ?_; (with_reducible refine (spec_DrawBelt.calls k _ _ l0 t324 t325 t326 t327 _ ?side1 ?side2 A4.out).mono ?_); (case side1 => repeat (first | exact HR0.out | (with_reducible refine Kd.C_alloc ?_ _) | (with_reducible refine Kd.C_drewN ?_ _) | (with_reducible refine Kd.C_drew ?_))); (case side2 => exact HC0.out); rintro e w13 ⟨v328, rfl, ho0, hb⟩; refine ⟨_, rfl, ?_⟩; have n0_ := uD (Kd.R_lower ho0 (uN (by repeat (first | (with_reducible first | exact HB.out | apply uL | apply uE | apply uK) | exact HB.out)))); have n1_ := uD (uO (by repeat (first | (with_reducible first | exact HB.out | apply uL | apply uE | apply uK) | exact HB.out)) hb); clear HB; have HO329 := n0_; have HB := n1_; clear n0_ n1_; (try clear hb); (try clear hb2); (try clear hk); (try clear hi); (try clear ho0)) | ((with_reducible refine gate_dst (N := 3) rfl ?_); (try (refine gate_guard (by rfl) ?_; dsimp only)); refine box_event ?hg (N := 3) ?hd (cs := #[.int .i64 0, .int .i64 0, .bool false, .slice none 0 0]) (t := 63) ?hr ?_; (case hd => rfl); (case hg => rfl); (case hr => first | (go_simp; done) | (go_simp; rfl)); intro gb330 hg w14 hbox hb; have n0_ := uD (Kd.R_below (by (with_reducible repeat (first | apply uU | apply uS | apply uT)); exact HO329.out) hb); have n1_ := uD (uO (by repeat (first | (with_reducible first | exact HB.out | apply uL | apply uE | apply uK) | exact HB.out)) hb); have n2_ := uD (hbox); have n3_ := uD ((by rw [hg]; exact (uN (by repeat (first | (with_reducible first | exact HB.out | apply uL | apply uE | apply uK) | exact HB.out))) : w.heap.size ≤ gb330)); have n4_ := uD ((by rw [hg]; exact (uN (by repeat (first | (with_reducible first | exact HB.out | apply uL | apply uE | apply uK) | exact HB.out))) : w.heap.size ≤ gb330)); clear HO329; clear HB; have HO329 := n0_; have HB := n1_; have BK330 := n2_; have GW330 := n3_; have GE330 := n4_; clear n0_ n1_ n2_ n3_ n4_; clear hb hbox hg; have hcz15_0 : w14.cell? ⟨gb330, 0, none⟩ = some (.int .i64 0) := (uF BK330.out 0).trans rfl; have hcz15_1 : w14.cell? ⟨gb330, 1, none⟩ = some (.int .i64 0) := (uF BK330.out 1).trans rfl; have hcz15_2 : w14.cell? ⟨gb330, 2, none⟩ = some (.bool false) := (uF BK330.out 2).trans rfl; have hcz15_3 : w14.cell? ⟨gb330, 3, none⟩ = some (.slice none 0 0) := (uF BK330.out 3).trans rfl; have hfz15_0 := uI BK330.out 0; have hfz15_1 := uI BK330.out 1; have hfz15_2 := uI BK330.out 2; have hfz15_3 := uI BK330.out 3; obtain ⟨Ao16, co16, eo16⟩ := Kd.R_slice HO329.out; subst eo16) | ((with_reducible refine gate_callee (f := 45) rfl ?_); refine goesL_ (some 23) rfl rfl Try.func45 (by kernel_rfl) rfl #[.slice A0 l0.length c0] rfl (by (try simp only [List.map_toArray, List.map_cons, List.map_nil]); first | done | rfl | (simp only [List.length_drop, List.length_take]; rfl)) ?_; (with_reducible refine (spec_DrawPlaces.calls k _ _ l0 t331 _ ?side1 ?side2 A5.out).mono ?_); (case side1 => exact Kd.C_below HR0.out (by repeat (first | (with_reducible first | exact HB.out | apply uL | apply uE | apply uK | refine uM ?_ GE330.out) | exact HB.out))); (case side2 => exact HC0.out); rintro e w17 ⟨v332, rfl, ho0, hb⟩; refine ⟨_, rfl, ?_⟩; have n0_ := uD (Kd.R_below (by (with_reducible repeat (first | apply uU | apply uS | apply uT)); exact (uX (uV (p := ⟨gb330, 3, none⟩) (uV (p := ⟨gb330, 2, none⟩) (uV (p := ⟨gb330, 1, none⟩) (uV (p := ⟨gb330, 0, none⟩) (uW HO329.out BK330.out (by decide)) (fun _ hk => hk.2) (.int .i64 t324)) (fun _ hk => hk.2) (.int .i64 t325)) (fun _ hk => hk.2) (.bool t326)) (fun _ hk => hk.2) (.slice Ao16 t327.length co16)) (fun _ h_ => h_.1))) hb); have n1_ := uD (Kd.R_lower ho0 (uN (by repeat (first | (with_reducible first | exact HB.out | apply uL | apply uE | apply uK | refine uM ?_ GE330.out) | exact HB.out)))); have n2_ := uD (blk_below (g := gb330) (o := .cells #[.int .i64 t324, .int .i64 t325, .bool t326, .slice Ao16 t327.length co16] 63 (0, 0)) (by (with_reducible repeat (first | refine uH ?_ _ | refine uJ ?_ | refine uG ?_ _)); refine uP (cs := #[.int .i64 t324, .int .i64 t325, .bool t326, .slice none 0 0]) ?_ 3 _ rfl; (with_reducible repeat (first | refine uH ?_ _ | refine uJ ?_ | refine uG ?_ _)); refine uP (cs := #[.int .i64 t324, .int .i64 t325, .bool false, .slice none 0 0]) ?_ 2 _ rfl; (with_reducible repeat (first | refine uH ?_ _ | refine uJ ?_ | refine uG ?_ _)); refine uP (cs := #[.int .i64 t324, .int .i64 0, .bool false, .slice none 0 0]) ?_ 1 _ rfl; (with_reducible repeat (first | refine uH ?_ _ | refine uJ ?_ | refine uG ?_ _)); refine uP (cs := #[.int .i64 0, .int .i64 0, .bool false, .slice none 0 0]) ?_ 0 _ rfl; (with_reducible repeat (first | refine uH ?_ _ | refine uJ ?_ | refine uG ?_ _)); exact BK330.out) hb); have n3_ := uD (uO (by repeat (first | (with_reducible first | exact HB.out | apply uL | apply uE | apply uK | refine uM ?_ GE330.out) | exact HB.out)) hb); clear HO329; clear BK330; clear HB; have HO329 := n0_; have HO333 := n1_; have BK330 := n2_; have HB := n3_; clear n0_ n1_ n2_ n3_; (try clear hb); (try clear hb2); (try clear hk); (try clear hi); (try clear ho0); have hcz18_0 : w17.cell? ⟨gb330, 0, none⟩ = some (.int .i64 t324) := (uF BK330.out 0).trans rfl; have hcz18_1 : w17.cell? ⟨gb330, 1, none⟩ = some (.int .i64 t325) := (uF BK330.out 1).trans rfl; have hcz18_2 : w17.cell? ⟨gb330, 2, none⟩ = some (.bool t326) := (uF BK330.out 2).trans rfl; have hcz18_3 : w17.cell? ⟨gb330, 3, none⟩ = some (.slice Ao16 t327.length co16) := (uF BK330.out 3).trans rfl; have hfz18_0 := uI BK330.out 0; have hfz18_1 := uI BK330.out 1; have hfz18_2 := uI BK330.out 2; have hfz18_3 := uI BK330.out 3))
     have n0_ : Aside0 (Kd.R k74 74 (w17.setCell ⟨gb330, 2, none⟩ (.bool false)) w.heap.size (fun _ => True) (.slice Ao16 t327.length co16) t327) := ⟨by (with_reducible repeat (first | apply uU | apply uS | apply uT)); exact uX (uV (p := ⟨gb330, 2, none⟩) (uW HO329.out BK330.out (by decide)) (fun _ hk => hk.2) (.bool false)) (fun _ hk => trivial)⟩
     have n1_ : Aside0 (Kd.R (Kd.int .i64) 3 (w17.setCell ⟨gb330, 2, none⟩ (.bool false)) w.heap.size (fun _ => True) v332 t331) := ⟨by (with_reducible repeat (first | apply uU | apply uS | apply uT)); exact uX (uV (p := ⟨gb330, 2, none⟩) (uW HO333.out BK330.out (by decide)) (fun _ hk => hk.2) (.bool false)) (fun _ hk => trivial)⟩
     have n2_ : Aside0 ((w17.setCell ⟨gb330, 2, none⟩ (.bool false)).heap[gb330]? = some (.cells #[.int .i64 t324, .int .i64 t325, .bool false, .slice Ao16 t327.length co16] 63 (0, 0))) := ⟨by (with_reducible repeat (first | refine uH ?_ _ | refine uJ ?_ | refine uG ?_ _)); refine uP (cs := #[.int .i64 t324, .int .i64 t325, .bool t326, .slice Ao16 t327.length co16]) ?_ 2 _ rfl; (with_reducible repeat (first | refine uH ?_ _ | refine uJ ?_ | refine uG ?_ _)); exact BK330.out⟩
     have n3_ : Aside0 (Below w.heap.size w (w17.setCell ⟨gb330, 2, none⟩ (.bool false))) := ⟨by repeat (first | (with_reducible first | exact HB.out | apply uL | apply uE | apply uK | refine uM ?_ GE330.out) | exact HB.out)⟩
     (try clear HO329)
     (try clear HO333)
     (try clear BK330)
     (try clear HB)
     generalize (w17.setCell ⟨gb330, 2, none⟩ (.bool false)) = w19 at n0_ n1_ n2_ n3_ ⊢
     have HO329 := n0_
     have HO333 := n1_
     have BK330 := n2_
     have HB := n3_
     clear n0_ n1_ n2_ n3_
     have n0_ := uD (uT HO329.out)
     have n1_ := uD (uT HO333.out)
     have n2_ := uD (uJ BK330.out)
     have n3_ := uD (uK HB.out)
     clear HO329
     clear HO333
     clear BK330
     clear HB
     have HO329 := n0_
     have HO333 := n1_
     have BK330 := n2_
     have HB := n3_
     clear n0_ n1_ n2_ n3_
     obtain ⟨Ao21, co21, eo21⟩ := Kd.R_slice HO333.out
     (first | subst eo21 | (injection eo21 with f1_ f2_ f3_; have f4_ := f1_.symm; have f5_ := f3_.symm; clear f1_ f2_ f3_; subst f4_; subst f5_))
     have p334 : 0 ≤ (0 : Int) := (by omega)
     have q334 : 0 < (t331.length : Int) := of_decide_eq_true (by first | (with_reducible assumption) | assumption)
     obtain ⟨ad334, e334, hx334_0⟩ := Kd.at_int (Kd.R_reads' HO333.out).2.2 0 p334 q334
     cases e334
     have qi334 : (0 < t331.length) = True := eq_true (by omega)
     (try rw [show ((0 : Int)).toNat = 0 from rfl] at hx334_0)
     (try rw [Addr.add_zero'] at hx334_0)
     replace p334 := eq_true p334
     replace q334 := eq_true q334
     refine start_ (n := 8) (S := fun w' => w'.cell? ⟨gb330, 0, none⟩ = some (.int .i64 t324) ∧ w'.cell? ⟨gb330, 1, none⟩ = some (.int .i64 t325) ∧ w'.cell? ⟨gb330, 2, none⟩ = some (.bool false) ∧ w'.cell? ⟨gb330, 3, none⟩ = some (.slice Ao16 t327.length co16) ∧ w'.cell? ad334 = some (.int .i64 (rd t331 0))) (ds := []) #[false, false, false, false, false, false, false, false] (by kernel_rfl) rfl rfl ⟨(uF BK330.out 0).trans rfl, (uF BK330.out 1).trans rfl, (uF BK330.out 2).trans rfl, (uF BK330.out 3).trans rfl, hx334_0⟩ (fun hHeld => ?_); refine with_tabW laws_FnWindows.tab6 laws_FnWindows.bits6 (fun HT_ HW_ => ?_)
     generalize w19.drew = w20 at HO329 HO333 BK330 HB hx334_0 hHeld ⊢
     refine ub (i := 0) (N := some 25) (v := ?_) (a' := ?_) #[true, false, false, false, false, false, false, false] rfl rfl (uY HT_.out (by kernel_rfl)) (fun _ _ _ h => h) (Or.inl ⟨by rfl, ?_⟩) ?_ ?_
     rotate_left
     ·intro w'
      go_simp
      with_reducible rfl
     rotate_left
     ·simp only [uc, uA, uB, uC, uZ, ua]
      rfl
     refine ub (i := 1) (N := some 26) (v := ?_) (a' := ?_) #[true, true, false, false, false, false, false, false] rfl rfl (uY HT_.out (by kernel_rfl)) (fun _ _ _ h => h) (Or.inl ⟨by rfl, ?_⟩) ?_ ?_
     rotate_left
     ·intro w'
      go_simp
      with_reducible rfl
     rotate_left
     ·simp only [uc, uA, uB, uC, uZ, ua]
      rfl
     refine ub (i := 3) (N := some 28) (v := ?_) (a' := ?_) #[true, true, false, true, false, false, false, false] rfl rfl (uY HT_.out (by kernel_rfl)) (fun _ _ _ h => h) (Or.inl ⟨by rfl, ?_⟩) ?_ ?_
     rotate_left
     ·intro w'
      go_simp
      with_reducible rfl
     rotate_left
     ·simp only [uc, uA, uB, uC, uZ, ua]
      rfl
     refine take_ (i := 2) (N := some 27) (v := ?_) (a' := ?_) #[true, true, true, true, false, false, false, false] rfl rfl (take_ofW HT_.out HW_.out (by kernel_rfl)) (fun _ _ _ h => h) (Or.inl ⟨by rfl, ?_⟩) hHeld ?_ ?_
     rotate_left
     ·rintro w' ⟨s0, s1, s2, s3, s4⟩
      go_simp
      with_reducible rfl
     rotate_left
     ·simp only [uc, uA, uB, uC, uZ, ua]
      rfl
     refine take_ (i := 4) (N := some 29) (v := ?_) (a' := ?_) #[true, true, true, true, true, false, false, false] rfl rfl (take_ofW HT_.out HW_.out (by kernel_rfl)) (fun _ _ _ h => h) (Or.inl ⟨by rfl, ?_⟩) hHeld ?_ ?_
     rotate_left
     ·rintro w' ⟨s0, s1, s2, s3, s4⟩
      go_simp
      with_reducible rfl
     rotate_left
     ·simp only [uc, uA, uB, uC, uZ, ua]
      rfl
     refine ub (i := 5) (N := some 30) (v := ?_) (a' := ?_) #[true, true, true, true, true, true, false, false] rfl rfl (uY HT_.out (by kernel_rfl)) (fun _ _ _ h => h) (Or.inl ⟨by rfl, ?_⟩) ?_ ?_
     rotate_left
     ·intro w'
      go_simp
      with_reducible rfl
     rotate_left
     ·simp only [uc, uA, uB, uC, uZ, ua]
      rfl
     refine ub (i := 6) (N := some 31) (v := ?_) (a' := ?_) #[true, true, true, true, true, true, true, false] rfl rfl (uY HT_.out (by kernel_rfl)) (fun _ _ _ h => h) (Or.inl ⟨by rfl, ?_⟩) ?_ ?_
     rotate_left
     ·intro w'
      go_simp
      with_reducible rfl
     rotate_left
     ·simp only [uc, uA, uB, uC, uZ, ua]
      rfl
     refine ub (i := 7) (N := some 5) (v := ?_) (a' := ?_) #[true, true, true, true, true, true, true, true] rfl rfl (uY HT_.out (by kernel_rfl)) (fun _ _ _ h => h) (Or.inl ⟨by rfl, ?_⟩) ?_ ?_
     rotate_left
     ·intro w'
      go_simp
      with_reducible rfl
     rotate_left
     ·simp only [uc, uA, uB, uC, uZ, ua]
      rfl
     refine done_ (done_of HT_.out (by kernel_rfl)) ?_
     have p335 : 0 ≤ (1 : Int) := (by omega)
     have q335 : 1 < (t331.length : Int) := of_decide_eq_true (by first | (with_reducible assumption) | assumption)
     obtain ⟨ad335, e335, hx335_0⟩ := Kd.at_int (Kd.R_reads' HO333.out).2.2 1 p335 q335
     obtain rfl : ad334 = ad335 := (by injection e335)
     (try simp only [show (1 : Int).toNat = 1 from rfl, Nat.reduceMul, Nat.reduceEqDiff, Go.Addr.add, ↓reduceIte] at hx335_0)
     have qi335 : (1 < t331.length) = True := eq_true (by omega)
     (try rw [show ((1 : Int)).toNat = 1 from rfl] at hx335_0)
     replace p335 := eq_true p335
     replace q335 := eq_true q335
     have hcz22_0 : w20.cell? ⟨gb330, 0, none⟩ = some (.int .i64 t324) := (uF BK330.out 0).trans rfl
     have hcz22_1 : w20.cell? ⟨gb330, 1, none⟩ = some (.int .i64 t325) := (uF BK330.out 1).trans rfl
     have hcz22_2 : w20.cell? ⟨gb330, 2, none⟩ = some (.bool false) := (uF BK330.out 2).trans rfl
     have hcz22_3 : w20.cell? ⟨gb330, 3, none⟩ = some (.slice Ao16 t327.length co16) := (uF BK330.out 3).trans rfl
     have hfz22_0 := uI BK330.out 0
     have hfz22_1 := uI BK330.out 1
     have hfz22_2 := uI BK330.out 2
     have hfz22_3 := uI BK330.out 3
     go_upto_region 11 with (first | ((with_reducible refine gate_callee (f := 40) rfl ?_); refine goesL_ (some 40) rfl rfl Try.func40 (by kernel_rfl) rfl #[.agg #[.int .i64 t324, .int .i64 t325, .bool false, .slice Ao16 t327.length co16], .int .i64 (wrap64 (1 + (Int.tmod (rd t331 0) t324))), .int .i64 (Int.tmod (rd t331 1) 1000), .int .i64 0] rfl (by (try simp only [List.map_toArray, List.map_cons, List.map_nil]); first | done | rfl | (simp only [List.length_drop, List.length_take]; rfl)) ?_; (with_reducible refine (impl_Windows.calls k t324 t325 false _ _ t327 (wrap64 (1 + (Int.tmod (rd t331 0) t324))) (Int.tmod (rd t331 1) 1000) 0 t336 t339 _ ?side1 ?side2 A9.out).mono ?_); (case side1 => repeat (first | exact (Kd.R_reads' HO329.out).2.2 | (with_reducible refine Kd.C_alloc ?_ _) | (with_reducible refine Kd.C_drewN ?_ _) | (with_reducible refine Kd.C_drew ?_))); (case side2 => exact (Kd.R_reads' HO329.out).2.1); rintro e w23 ⟨v337, rfl, ho0, hb⟩; refine ⟨_, rfl, ?_⟩; have n0_ := uD (Kd.R_below (by (with_reducible repeat (first | apply uU | apply uS | apply uT)); exact HO329.out) hb); have n1_ := uD (Kd.R_below (by (with_reducible repeat (first | apply uU | apply uS | apply uT)); exact HO333.out) hb); have n2_ := uD (Kd.R_lower ho0 (uN (by repeat (first | (with_reducible first | exact HB.out | apply uL | apply uE | apply uK | refine uM ?_ GE330.out) | exact HB.out)))); have n3_ := uD (blk_below (g := gb330) (o := .cells #[.int .i64 t324, .int .i64 t325, .bool false, .slice Ao16 t327.length co16] 63 (0, 0)) (by (with_reducible repeat (first | refine uH ?_ _ | refine uJ ?_ | refine uG ?_ _)); exact BK330.out) hb); have n4_ := uD (uO (by repeat (first | (with_reducible first | exact HB.out | apply uL | apply uE | apply uK | refine uM ?_ GE330.out) | exact HB.out)) hb); clear HO329; clear HO333; clear BK330; clear HB; have HO329 := n0_; have HO333 := n1_; have HO338 := n2_; have BK330 := n3_; have HB := n4_; clear n0_ n1_ n2_ n3_ n4_; (try clear hb); (try clear hb2); (try clear hk); (try clear hi); (try clear ho0); have hcz24_0 : w23.cell? ⟨gb330, 0, none⟩ = some (.int .i64 t324) := (uF BK330.out 0).trans rfl; have hcz24_1 : w23.cell? ⟨gb330, 1, none⟩ = some (.int .i64 t325) := (uF BK330.out 1).trans rfl; have hcz24_2 : w23.cell? ⟨gb330, 2, none⟩ = some (.bool false) := (uF BK330.out 2).trans rfl; have hcz24_3 : w23.cell? ⟨gb330, 3, none⟩ = some (.slice Ao16 t327.length co16) := (uF BK330.out 3).trans rfl; have hfz24_0 := uI BK330.out 0; have hfz24_1 := uI BK330.out 1; have hfz24_2 := uI BK330.out 2; have hfz24_3 := uI BK330.out 3) | ((with_reducible refine gate_callee (f := 38) rfl ?_); refine goesL_ (some 47) rfl rfl Try.func38 (by kernel_rfl) rfl #[.agg #[.int .i64 t324, .int .i64 t325, .bool false, .slice Ao16 t327.length co16], .int .i64 (wrap64 (1 + (Int.tmod (rd t331 0) t324))), .int .i64 (Int.tmod (rd t331 1) 1000), .int .i64 0] rfl (by (try simp only [List.map_toArray, List.map_cons, List.map_nil]); first | done | rfl | (simp only [List.length_drop, List.length_take]; rfl)) ?_; (with_reducible refine (spec_Windows.calls k t324 t325 false _ _ t327 (wrap64 (1 + (Int.tmod (rd t331 0) t324))) (Int.tmod (rd t331 1) 1000) 0 t340 t343 _ ?side1 ?side2 A10.out).mono ?_); (case side1 => repeat (first | exact (Kd.R_reads' HO329.out).2.2 | (with_reducible refine Kd.C_alloc ?_ _) | (with_reducible refine Kd.C_drewN ?_ _) | (with_reducible refine Kd.C_drew ?_))); (case side2 => exact (Kd.R_reads' HO329.out).2.1); rintro e w25 ⟨v341, rfl, ho0, hb⟩; refine ⟨_, rfl, ?_⟩; have n0_ := uD (Kd.R_below (by (with_reducible repeat (first | apply uU | apply uS | apply uT)); exact HO329.out) hb); have n1_ := uD (Kd.R_below (by (with_reducible repeat (first | apply uU | apply uS | apply uT)); exact HO333.out) hb); have n2_ := uD (Kd.R_elder' (by (with_reducible repeat (first | apply uU | apply uS | apply uT)); exact HO338.out) (Kd.R_base ho0) hb); have n3_ := uD (Kd.R_lower (Kd.R_new' ho0 (Kd.R_lt (by (with_reducible repeat (first | apply uU | apply uS | apply uT)); exact HO338.out))) (uN (by repeat (first | (with_reducible first | exact HB.out | apply uL | apply uE | apply uK | refine uM ?_ GE330.out) | exact HB.out)))); have n4_ := uD (blk_below (g := gb330) (o := .cells #[.int .i64 t324, .int .i64 t325, .bool false, .slice Ao16 t327.length co16] 63 (0, 0)) (by (with_reducible repeat (first | refine uH ?_ _ | refine uJ ?_ | refine uG ?_ _)); exact BK330.out) hb); have n5_ := uD (uO (by repeat (first | (with_reducible first | exact HB.out | apply uL | apply uE | apply uK | refine uM ?_ GE330.out) | exact HB.out)) hb); clear HO329; clear HO333; clear HO338; clear BK330; clear HB; have HO329 := n0_; have HO333 := n1_; have HO338 := n2_; have HO342 := n3_; have BK330 := n4_; have HB := n5_; clear n0_ n1_ n2_ n3_ n4_ n5_; (try clear hb); (try clear hb2); (try clear hk); (try clear hi); (try clear ho0); have hcz26_0 : w25.cell? ⟨gb330, 0, none⟩ = some (.int .i64 t324) := (uF BK330.out 0).trans rfl; have hcz26_1 : w25.cell? ⟨gb330, 1, none⟩ = some (.int .i64 t325) := (uF BK330.out 1).trans rfl; have hcz26_2 : w25.cell? ⟨gb330, 2, none⟩ = some (.bool false) := (uF BK330.out 2).trans rfl; have hcz26_3 : w25.cell? ⟨gb330, 3, none⟩ = some (.slice Ao16 t327.length co16) := (uF BK330.out 3).trans rfl; have hfz26_0 := uI BK330.out 0; have hfz26_1 := uI BK330.out 1; have hfz26_2 := uI BK330.out 2; have hfz26_3 := uI BK330.out 3) | ((with_reducible refine gate_callee (f := 40) rfl ?_); refine goesL_ (some 54) rfl rfl Try.func40 (by kernel_rfl) rfl #[.agg #[.int .i64 t324, .int .i64 t325, .bool false, .slice Ao16 t327.length co16], .int .i64 (wrap64 (1 + (Int.tmod (rd t331 0) t324))), .int .i64 (Int.tmod (rd t331 1) 1000), .int .i64 7] rfl (by (try simp only [List.map_toArray, List.map_cons, List.map_nil]); first | done | rfl | (simp only [List.length_drop, List.length_take]; rfl)) ?_; (with_reducible refine (impl_Windows.calls k t324 t325 false _ _ t327 (wrap64 (1 + (Int.tmod (rd t331 0) t324))) (Int.tmod (rd t331 1) 1000) 7 t344 t347 _ ?side1 ?side2 A11.out).mono ?_); (case side1 => repeat (first | exact (Kd.R_reads' HO329.out).2.2 | (with_reducible refine Kd.C_alloc ?_ _) | (with_reducible refine Kd.C_drewN ?_ _) | (with_reducible refine Kd.C_drew ?_))); (case side2 => exact (Kd.R_reads' HO329.out).2.1); rintro e w27 ⟨v345, rfl, ho0, hb⟩; refine ⟨_, rfl, ?_⟩; have n0_ := uD (Kd.R_below (by (with_reducible repeat (first | apply uU | apply uS | apply uT)); exact HO329.out) hb); have n1_ := uD (Kd.R_below (by (with_reducible repeat (first | apply uU | apply uS | apply uT)); exact HO333.out) hb); have n2_ := uD (Kd.R_elder' (by (with_reducible repeat (first | apply uU | apply uS | apply uT)); exact HO338.out) (Kd.R_base ho0) hb); have n3_ := uD (Kd.R_elder' (by (with_reducible repeat (first | apply uU | apply uS | apply uT)); exact HO342.out) (Kd.R_base ho0) hb); have n4_ := uD (Kd.R_lower (Kd.R_new' (Kd.R_new' ho0 (Kd.R_lt (by (with_reducible repeat (first | apply uU | apply uS | apply uT)); exact HO338.out))) (Kd.R_lt (by (with_reducible repeat (first | apply uU | apply uS | apply uT)); exact HO342.out))) (uN (by repeat (first | (with_reducible first | exact HB.out | apply uL | apply uE | apply uK | refine uM ?_ GE330.out) | exact HB.out)))); have n5_ := uD (blk_below (g := gb330) (o := .cells #[.int .i64 t324, .int .i64 t325, .bool false, .slice Ao16 t327.length co16] 63 (0, 0)) (by (with_reducible repeat (first | refine uH ?_ _ | refine uJ ?_ | refine uG ?_ _)); exact BK330.out) hb); have n6_ := uD (uO (by repeat (first | (with_reducible first | exact HB.out | apply uL | apply uE | apply uK | refine uM ?_ GE330.out) | exact HB.out)) hb); clear HO329; clear HO333; clear HO338; clear HO342; clear BK330; clear HB; have HO329 := n0_; have HO333 := n1_; have HO338 := n2_; have HO342 := n3_; have HO346 := n4_; have BK330 := n5_; have HB := n6_; clear n0_ n1_ n2_ n3_ n4_ n5_ n6_; (try clear hb); (try clear hb2); (try clear hk); (try clear hi); (try clear ho0)))
     (try simp only [uc, uA, uB, uC])
     go_cut [77] (fun v77 wc => ∃ (kq : Nat) (x77_11 : Bool), v77 = .bool x77_11 ∧ Aside0 (laws_FnWindows.j0 kq (wrap64 (1 + (Int.tmod (rd t331 0) t324))) (Int.tmod (rd t331 1) 1000) t336 t344 x77_11 t324 t325 false t327 = some true) ∧ Aside0 (kq ≤ k) ∧ Aside0 (Kd.R k47 47 wc w.heap.size (fun k_ => some k_ ≠ (v345 : Value).ownBlock) v337 t336) ∧ Aside0 (Kd.R k47 47 wc w.heap.size (fun k_ => some k_ ≠ (v337 : Value).ownBlock) v345 t344) ∧ Aside0 (Kd.R k74 74 wc w.heap.size (fun _ => True) (.slice Ao16 t327.length co16) t327) ∧ Aside0 (wc.heap[gb330]? = some (.cells #[.int .i64 t324, .int .i64 t325, .bool false, (.slice Ao16 t327.length co16)] 63 (0, 0))) ∧ Aside0 (Below w.heap.size w wc))
     case first =>
      have H := HC12.out
      clear HC12
      by_cases c28 : (t339 != t343) = true
      ·rw [if_pos c28] at H
       have c28b0 : (t339 != t343) = true := c28
       (try (have c28b1 : decide (t339 = t343) = false := by simpa using c28))
       (try (have c28b2 : (t339 == t343) = false := by simpa using c28))
       (try (have c28b3 : ¬ (t339 = t343) := by simpa using c28))
       clear c28
       (first | rw [c28b0] | (simp only [uZ, ua]; rw [c28b0]) | skip)
       exact absurd H (by cases k <;> simp [laws_FnWindows.j0])
      ·rw [if_neg c28] at H
       have c28b0 : (t339 != t343) = false := by simpa using c28
       (try (have c28b1 : decide (t339 = t343) = true := by simpa using c28))
       (try (have c28b2 : (t339 == t343) = true := by simpa using c28))
       clear c28
       (first | rw [c28b0] | (simp only [uZ, ua]; rw [c28b0]) | skip)
       by_cases c29 : (t347 != t343) = true
       ·rw [if_pos c29] at H
        have c29b0 : (t347 != t343) = true := c29
        (try (have c29b1 : decide (t347 = t343) = false := by simpa using c29))
        (try (have c29b2 : (t347 == t343) = false := by simpa using c29))
        (try (have c29b3 : ¬ (t347 = t343) := by simpa using c29))
        clear c29
        exact absurd H (by cases k <;> simp [laws_FnWindows.j0])
       ·rw [if_neg c29] at H
        have c29b0 : (t347 != t343) = false := by simpa using c29
        (try (have c29b1 : decide (t347 = t343) = true := by simpa using c29))
        (try (have c29b2 : (t347 == t343) = true := by simpa using c29))
        clear c29
        by_cases c30 : (t344.length : Int) = (t340.length : Int)
        ·rw [if_pos c30] at H
         have c30b0 : ((t344.length : Int) == (t340.length : Int)) = true := beq_iff_eq.mpr c30
         have c30b1 : ((t344.length : Int) != (t340.length : Int)) = false := bne_eq_false_iff_eq.mpr c30
         have c30b2 : (t344.length == t340.length) = true := by first | simpa using c30 | (simp at c30 ⊢; omega)
         clear c30
         replace H := Option.bind_eq_some_iff.mp H
         obtain ⟨t348, A310, H⟩ := H
         replace H : (laws_FnWindows.j0 k (wrap64 (1 + (Int.tmod (rd t331 0) t324))) (Int.tmod (rd t331 1) 1000) t336 t344 (!t348) t324 t325 false t327) = some true := H
         have A31 := uD A310
         clear A310
         have H' := uD H
         clear H
         obtain ⟨Ao32, co32, eo32⟩ := Kd.R_slice HO346.out
         subst eo32
         obtain ⟨Ao33, co33, eo33⟩ := Kd.R_slice HO342.out
         subst eo33
         obtain ⟨Ao34, co34, eo34⟩ := Kd.R_slice HO338.out
         subst eo34
         go_wp2_with (first | (go_at_call 46; (with_reducible refine (laws_sameExpects.calls k _ _ t336 _ _ t340 t348 _ ?side1 ?side2 ?side3 ?side4 A31.out).mono ?_); (case side1 => repeat (first | exact (Kd.R_reads' HO338.out).2.2 | (with_reducible refine Kd.C_alloc ?_ _) | (with_reducible refine Kd.C_drewN ?_ _) | (with_reducible refine Kd.C_drew ?_))); (case side2 => exact (Kd.R_reads' HO338.out).2.1); (case side3 => repeat (first | exact (Kd.R_reads' HO342.out).2.2 | (with_reducible refine Kd.C_alloc ?_ _) | (with_reducible refine Kd.C_drewN ?_ _) | (with_reducible refine Kd.C_drew ?_))); (case side4 => exact (Kd.R_reads' HO342.out).2.1); rintro e w' ⟨rfl, ⟨nd, rfl⟩⟩))
         go_meet
         case rel => exact ⟨_, (!t348), (by first | rfl | (simp; done) | (simp [*]; done)), H', ⟨by first | omega | exact Nat.le_refl _⟩, ⟨by (with_reducible repeat (first | apply uU | apply uS | apply uT)); exact uX HO338.out (fun _ hk => hk.2)⟩, ⟨by (with_reducible repeat (first | apply uU | apply uS | apply uT)); exact uX HO346.out (fun _ hk => hk.1.2)⟩, ⟨by (with_reducible repeat (first | apply uU | apply uS | apply uT)); exact HO329.out⟩, ⟨by (with_reducible repeat (first | refine uH ?_ _ | refine uJ ?_ | refine uG ?_ _)); exact BK330.out⟩, ⟨by repeat (first | (with_reducible first | exact HB.out | apply uL | apply uE | apply uK | refine uM ?_ GE330.out) | exact HB.out)⟩⟩
        ·rw [if_neg c30] at H
         have c30b0 : ((t344.length : Int) == (t340.length : Int)) = false := beq_eq_false_iff_ne.mpr c30
         have c30b1 : ((t344.length : Int) != (t340.length : Int)) = true := bne_iff_ne.mpr c30
         have c30b2 : (t344.length == t340.length) = false := by first | simpa using c30 | (simp at c30 ⊢; omega)
         exact absurd H (by cases k <;> simp [laws_FnWindows.j0])
     case rest =>
      clear HC12
      try clear c1
      try clear c2
      try clear p2
      try clear c3
      try clear p3
      try clear q3
      try clear hx3
      try clear qi3
      try clear c4
      try clear c6
      try clear c6b0
      try clear c6b1
      try clear p6
      try clear c7
      try clear c7b0
      try clear c7b1
      try clear c8
      try clear c8b0
      try clear c8b1
      try clear c11
      try clear c28
      try clear c28b0
      try clear c28b1
      try clear c28b2
      try clear c29
      try clear c29b0
      try clear c29b1
      try clear c29b2
      try clear c30
      try clear c30b0
      try clear c30b1
      try clear c30b2
      try clear p33
      try clear q33
      try clear hx33
      try clear qi33
      try clear c34
      try clear hcz15_0
      try clear hcz15_1
      try clear hcz15_2
      try clear hcz15_3
      try clear hcz18_0
      try clear hcz18_1
      try clear hcz18_2
      try clear hcz18_3
      try clear hcz22_0
      try clear hcz22_1
      try clear hcz22_2
      try clear hcz22_3
      try clear hcz24_0
      try clear hcz24_1
      try clear hcz24_2
      try clear hcz24_3
      try clear hcz26_0
      try clear hcz26_1
      try clear hcz26_2
      try clear hcz26_3
      try clear hfz15_0
      try clear hfz15_1
      try clear hfz15_2
      try clear hfz15_3
      try clear hfz18_0
      try clear hfz18_1
      try clear hfz18_2
      try clear hfz18_3
      try clear hfz22_0
      try clear hfz22_1
      try clear hfz22_2
      try clear hfz22_3
      try clear hfz24_0
      try clear hfz24_1
      try clear hfz24_2
      try clear hfz24_3
      try clear hfz26_0
      try clear hfz26_1
      try clear hfz26_2
      try clear hfz26_3
      try clear hx334_0
      try clear hx335_0
      try clear p334
      try clear p335
      try clear q334
      try clear q335
      obtain ⟨kq, x77_11, rfl, HA, HJ11, HO_7, HO_11, HO_331003, BK330, HB⟩ := hcut
      cases kq with
      | zero => exact absurd HA.out (by simp [laws_FnWindows.j0])
      | succ kj11 =>
       have H := HA.out
       clear HA
       simp only [laws_FnWindows.j0] at H
       by_cases c35 : x77_11 = true
       ·subst c35
        have H1 : (some false) = some true := by rw [if_pos rfl] at H; first | done | exact H
        clear H
        have H := H1
        clear H1
        exact absurd H (by simp)
       ·replace c35 := Bool.eq_false_iff.mpr c35
        subst c35
        have H1 : (laws_FnWindows.l0 kj11 (wrap64 (1 + (Int.tmod (rd t331 0) t324))) (Int.tmod (rd t331 1) 1000) t336 t344 0 t324 t325 false t327) = some true := by rw [if_neg (show ¬ (false = true) by decide)] at H; first | done | exact H
        clear H
        have H := H1
        clear H1
        have H' := uD H
        clear H
        go_wp2
        go_loopg [13] kj11 (fun kq v13 w' => ∃ (x13_2 : Int), v13 = .int .i64 x13_2 ∧ Aside0 (laws_FnWindows.l0 kq (wrap64 (1 + (Int.tmod (rd t331 0) t324))) (Int.tmod (rd t331 1) 1000) t336 t344 x13_2 t324 t325 false t327 = some true) ∧ Aside0 (kq ≤ kj11) ∧ Aside0 (Kd.R k47 47 w' w.heap.size (fun k_ => some k_ ≠ (v345 : Value).ownBlock) v337 t336) ∧ Aside0 (Kd.R k47 47 w' w.heap.size (fun k_ => some k_ ≠ (v337 : Value).ownBlock) v345 t344) ∧ Aside0 (Kd.R k74 74 w' w.heap.size (fun _ => True) (.slice Ao16 t327.length co16) t327) ∧ Aside0 (w'.heap[gb330]? = some (.cells #[.int .i64 t324, .int .i64 t325, .bool false, (.slice Ao16 t327.length co16)] 63 (0, 0))) ∧ Aside0 (Below w.heap.size w w'))
        case atStart => exact ⟨(0), (by first | rfl | (simp; done) | (simp [*]; done)), H', ⟨Nat.le_refl _⟩, ⟨by (with_reducible repeat (first | apply uU | apply uS | apply uT)); exact HO_7.out⟩, ⟨by (with_reducible repeat (first | apply uU | apply uS | apply uT)); exact HO_11.out⟩, ⟨by (with_reducible repeat (first | apply uU | apply uS | apply uT)); exact HO_331003.out⟩, ⟨by (with_reducible repeat (first | refine uH ?_ _ | refine uJ ?_ | refine uG ?_ _)); exact BK330.out⟩, ⟨by repeat (first | (with_reducible first | exact HB.out | apply uL | apply uE | apply uK | refine uM ?_ GE330.out) | exact HB.out)⟩⟩
        case round =>
         clear H'
         try clear c1
         try clear c2
         try clear p2
         try clear c3
         try clear p3
         try clear q3
         try clear hx3
         try clear qi3
         try clear c4
         try clear c6
         try clear c6b0
         try clear c6b1
         try clear p6
         try clear c7
         try clear c7b0
         try clear c7b1
         try clear c8
         try clear c8b0
         try clear c8b1
         try clear c11
         try clear c28
         try clear c28b0
         try clear c28b1
         try clear c28b2
         try clear c29
         try clear c29b0
         try clear c29b1
         try clear c29b2
         try clear c30
         try clear c30b0
         try clear c30b1
         try clear c30b2
         try clear p33
         try clear q33
         try clear hx33
         try clear qi33
         try clear c34
         try clear c35
         try clear hcz15_0
         try clear hcz15_1
         try clear hcz15_2
         try clear hcz15_3
         try clear hcz18_0
         try clear hcz18_1
         try clear hcz18_2
         try clear hcz18_3
         try clear hcz22_0
         try clear hcz22_1
         try clear hcz22_2
         try clear hcz22_3
         try clear hcz24_0
         try clear hcz24_1
         try clear hcz24_2
         try clear hcz24_3
         try clear hcz26_0
         try clear hcz26_1
         try clear hcz26_2
         try clear hcz26_3
         try clear hfz15_0
         try clear hfz15_1
         try clear hfz15_2
         try clear hfz15_3
         try clear hfz18_0
         try clear hfz18_1
         try clear hfz18_2
         try clear hfz18_3
         try clear hfz22_0
         try clear hfz22_1
         try clear hfz22_2
         try clear hfz22_3
         try clear hfz24_0
         try clear hfz24_1
         try clear hfz24_2
         try clear hfz24_3
         try clear hfz26_0
         try clear hfz26_1
         try clear hfz26_2
         try clear hfz26_3
         try clear hx334_0
         try clear hx335_0
         try clear p2
         try clear p3
         try clear p33
         try clear p334
         try clear p335
         try clear p6
         try clear q3
         try clear q33
         try clear q334
         try clear q335
         obtain ⟨x13_2, rfl, HA, HK2, HO_7, HO_11, HO_331003, BK330, HB⟩ := hrel
         cases gk with
         | zero => exact absurd HA.out (by simp [laws_FnWindows.l0])
         | succ k2 =>
          have H := HA.out
          clear HA
          simp only [laws_FnWindows.l0] at H
          by_cases c36 : x13_2 < (t336.length : Int)
          ·rw [if_pos c36] at H
           have c36b0 : decide (x13_2 < (t336.length : Int)) = true := decide_eq_true c36
           clear c36
           by_cases c37 : 0 ≤ x13_2
           ·rw [if_pos c37] at H
            have c37b0 : decide (0 ≤ x13_2) = true := decide_eq_true c37
            clear c37
            replace H := Option.bind_eq_some_iff.mp H
            obtain ⟨⟨t351, t352, t353, t354, t357⟩, A380, H⟩ := H
            replace H : (laws_FnWindows.l1 k2 (wrap64 (1 + (Int.tmod (rd t331 0) t324))) (Int.tmod (rd t331 1) 1000) t336 t344 x13_2 false 0 t324 t325 false t327 t351 t352 t353 t354) = some true := H
            have A38 := uD A380
            clear A380
            have H' := uD H
            clear H
            obtain ⟨Ao39, co39, eo39⟩ := Kd.R_slice HO_7.out
            subst eo39
            try go_wp2
            have n0_ := uD (uT HO_7.out)
            have n1_ := uD (uT HO_11.out)
            have n2_ := uD (uT HO_331003.out)
            have n3_ := uD (uJ BK330.out)
            have n4_ := uD (uK HB.out)
            clear HO_7
            clear HO_11
            clear HO_331003
            clear BK330
            clear HB
            have HO_7 := n0_
            have HO_11 := n1_
            have HO_331003 := n2_
            have BK330 := n3_
            have HB := n4_
            clear n0_ n1_ n2_ n3_ n4_
            have p350 : 0 ≤ (x13_2 : Int) := of_decide_eq_true (by first | (with_reducible assumption) | assumption)
            have q350 : x13_2 < (t336.length : Int) := of_decide_eq_true (by first | (with_reducible assumption) | assumption)
            obtain ⟨ad350, e350, hx350_0, hx350_1, hx350_2⟩ := at_T47 (Kd.R_reads' HO_7.out).2.2 x13_2 p350 q350
            cases e350
            replace p350 := eq_true p350
            replace q350 := eq_true q350
            refine start_ (n := 15) (S := fun w' => w'.cell? ⟨gb330, 0, none⟩ = some (.int .i64 t324) ∧ w'.cell? ⟨gb330, 1, none⟩ = some (.int .i64 t325) ∧ w'.cell? ⟨gb330, 2, none⟩ = some (.bool false) ∧ w'.cell? ⟨gb330, 3, none⟩ = some (.slice Ao16 t327.length co16) ∧ w'.cell? (ad350.add ((x13_2).toNat * 3)) = some (.int .i64 ((rd_T47 t336 x13_2).f0)) ∧ w'.cell? ⟨(ad350.add ((x13_2).toNat * 3)).block, (ad350.add ((x13_2).toNat * 3)).off + 1, none⟩ = some (.int .i64 ((rd_T47 t336 x13_2).f1)) ∧ w'.cell? ⟨(ad350.add ((x13_2).toNat * 3)).block, (ad350.add ((x13_2).toNat * 3)).off + 2, none⟩ = some (.int .i64 ((rd_T47 t336 x13_2).f2))) (ds := []) #[false, false, false, false, false, false, false, false, false, false, false, false, false, false, false] (by kernel_rfl) rfl rfl ⟨(uF BK330.out 0).trans rfl, (uF BK330.out 1).trans rfl, (uF BK330.out 2).trans rfl, (uF BK330.out 3).trans rfl, hx350_0, hx350_1, hx350_2⟩ (fun hHeld => ?_); refine with_tabW laws_FnWindows.tab16 laws_FnWindows.bits16 (fun HT_ HW_ => ?_)
            generalize wr.drew = w40 at HO_7 HO_11 HO_331003 BK330 HB hx350_0 hx350_1 hx350_2 hHeld ⊢
            refine ub (i := 1) (N := some 86) (v := ?_) (a' := ?_) #[false, true, false, false, false, false, false, false, false, false, false, false, false, false, false] rfl rfl (uY HT_.out (by kernel_rfl)) (fun _ _ _ h => h) (Or.inl ⟨by rfl, ?_⟩) ?_ ?_
            rotate_left
            ·intro w'
             go_simp
             with_reducible rfl
            rotate_left
            ·simp only [uc, uA, uB, uC, uZ, ua]
             rfl
            refine ub (i := 2) (N := some 87) (v := ?_) (a' := ?_) #[false, true, true, false, false, false, false, false, false, false, false, false, false, false, false] rfl rfl (uY HT_.out (by kernel_rfl)) (fun _ _ _ h => h) (Or.inl ⟨by rfl, ?_⟩) ?_ ?_
            rotate_left
            ·intro w'
             go_simp
             with_reducible rfl
            rotate_left
            ·simp only [uc, uA, uB, uC, uZ, ua]
             rfl
            refine ub (i := 3) (N := some 88) (v := ?_) (a' := ?_) #[false, true, true, true, false, false, false, false, false, false, false, false, false, false, false] rfl rfl (uY HT_.out (by kernel_rfl)) (fun _ _ _ h => h) (Or.inl ⟨by rfl, ?_⟩) ?_ ?_
            rotate_left
            ·intro w'
             go_simp
             with_reducible rfl
            rotate_left
            ·simp only [uc, uA, uB, uC, uZ, ua]
             rfl
            refine ub (i := 4) (N := some 89) (v := ?_) (a' := ?_) #[false, true, true, true, true, false, false, false, false, false, false, false, false, false, false] rfl rfl (uY HT_.out (by kernel_rfl)) (fun _ _ _ h => h) (Or.inl ⟨by rfl, ?_⟩) ?_ ?_
            rotate_left
            ·intro w'
             go_simp
             with_reducible rfl
            rotate_left
            ·simp only [uc, uA, uB, uC, uZ, ua]
             rfl
            refine ub (i := 6) (N := some 91) (v := ?_) (a' := ?_) #[false, true, true, true, true, false, true, false, false, false, false, false, false, false, false] rfl rfl (uY HT_.out (by kernel_rfl)) (fun _ _ _ h => h) (Or.inl ⟨by rfl, ?_⟩) ?_ ?_
            rotate_left
            ·intro w'
             go_simp
             with_reducible rfl
            rotate_left
            ·simp only [uc, uA, uB, uC, uZ, ua]
             rfl
            refine take_ (i := 0) (N := some 85) (v := ?_) (a' := ?_) #[true, true, true, true, true, false, true, false, false, false, false, false, false, false, false] rfl rfl (take_ofW HT_.out HW_.out (by kernel_rfl)) (fun _ _ _ h => h) (Or.inl ⟨by rfl, ?_⟩) hHeld ?_ ?_
            rotate_left
            ·rintro w' ⟨s0, s1, s2, s3, s4, s5, s6⟩
             go_simp
             with_reducible rfl
            rotate_left
            ·simp only [uc, uA, uB, uC, uZ, ua]
             rfl
            refine take_ (i := 5) (N := some 90) (v := ?_) (a' := ?_) #[true, true, true, true, true, true, true, false, false, false, false, false, false, false, false] rfl rfl (take_ofW HT_.out HW_.out (by kernel_rfl)) (fun _ _ _ h => h) (Or.inl ⟨by rfl, ?_⟩) hHeld ?_ ?_
            rotate_left
            ·rintro w' ⟨s0, s1, s2, s3, s4, s5, s6⟩
             go_simp
             with_reducible rfl
            rotate_left
            ·simp only [uc, uA, uB, uC, uZ, ua]
             rfl
            refine ub (i := 7) (N := some 92) (v := ?_) (a' := ?_) #[true, true, true, true, true, true, true, true, false, false, false, false, false, false, false] rfl rfl (uY HT_.out (by kernel_rfl)) (fun _ _ _ h => h) (Or.inl ⟨by rfl, ?_⟩) ?_ ?_
            rotate_left
            ·intro w'
             go_simp
             with_reducible rfl
            rotate_left
            ·simp only [uc, uA, uB, uC, uZ, ua]
             rfl
            refine join_ (σ := Value × Value × Nat) 2 #[true, true, true, true, true, true, true, true, true, true, true, true, true, false, false] (fun s_ => [(93, .tuple #[.agg #[.int .i64 t351, .int .i64 t352, .bool t353, s_.1], s_.2.1]), (14, .pointer (some ⟨s_.2.2, 0, none⟩)), (84, .tuple #[.agg #[.int .i64 t351, .int .i64 t352, .bool t353, s_.1], s_.2.1]), (94, .agg #[.int .i64 t351, .int .i64 t352, .bool t353, s_.1]), (95, s_.2.1)]) (fun s_ w' => (w'.cell? ⟨gb330, 0, none⟩ = some (.int .i64 t324) ∧ w'.cell? ⟨gb330, 1, none⟩ = some (.int .i64 t325) ∧ w'.cell? ⟨gb330, 2, none⟩ = some (.bool false) ∧ w'.cell? ⟨gb330, 3, none⟩ = some (.slice Ao16 t327.length co16) ∧ w'.cell? (ad350.add ((x13_2).toNat * 3)) = some (.int .i64 ((rd_T47 t336 x13_2).f0)) ∧ w'.cell? ⟨(ad350.add ((x13_2).toNat * 3)).block, (ad350.add ((x13_2).toNat * 3)).off + 1, none⟩ = some (.int .i64 ((rd_T47 t336 x13_2).f1)) ∧ w'.cell? ⟨(ad350.add ((x13_2).toNat * 3)).block, (ad350.add ((x13_2).toNat * 3)).off + 2, none⟩ = some (.int .i64 ((rd_T47 t336 x13_2).f2))) ∧ (Kd.R k74 74 w' w.heap.size (fun k_ => some k_ ≠ (.slice Ao16 t327.length co16 : Value).ownBlock) s_.1 t354) ∧ (Kd.R k116 116 w' w.heap.size (fun _ => True) s_.2.1 t357) ∧ (Kd.R k47 47 w' w.heap.size (fun k_ => some k_ ≠ (.slice (some ad350) t336.length co39 : Value).ownBlock) v345 t344) ∧ (Kd.R k74 74 w' w.heap.size (fun k_ => some k_ ≠ (s_.1 : Value).ownBlock) (.slice Ao16 t327.length co16) t327) ∧ (Kd.R k47 47 w' w.heap.size (fun k_ => some k_ ≠ (v345 : Value).ownBlock) (.slice (some ad350) t336.length co39) t336) ∧ (w'.heap[gb330]? = some (.cells #[.int .i64 t324, .int .i64 t325, .bool false, .slice Ao16 t327.length co16] 63 (0, 0))) ∧ (w'.heap[s_.2.2]? = some (.cells #[.int .i64 0, .int .i64 0, .bool false, .slice none 0 0] 63 (0, 0))) ∧ (w.heap.size ≤ s_.2.2) ∧ (w.heap.size ≤ s_.2.2) ∧ (gb330 ≠ s_.2.2) ∧ (s_.2.2 ≠ gb330) ∧ (Below w.heap.size w w')) ?_ ?_
            rotate_left
            ·intro hCont
             refine two_ (i := 8) (j := 12) (Ni := some 93) (Nj := some 14) #[true, true, true, true, true, true, true, true, true, false, false, false, false, false, false] #[true, true, true, true, true, true, true, true, false, false, false, false, true, false, false] rfl rfl rfl rfl (two_of HT_.out (by kernel_rfl)) (by decide) (by decide) (fun K hK => ?_) (fun K hK => ?_)
             ·skip
              refine goes_ Try.func47 (by kernel_rfl) rfl #[.agg #[.int .i64 t324, .int .i64 t325, .bool false, .slice Ao16 t327.length co16], .int .i64 (wrap64 (((rd_T47 t336 x13_2).f1) - (Int.tmod (rd t331 1) 1000)))] (by rfl) rfl rfl (by (try simp only [List.map_toArray, List.map_cons, List.map_nil]); first | done | rfl | (simp only [List.length_drop, List.length_take]; rfl)) ?_
              with_reducible refine (spec_Run.calls k2 t324 t325 false _ _ t327 (wrap64 (((rd_T47 t336 x13_2).f1) - (Int.tmod (rd t331 1) 1000))) t351 t352 t353 t354 t357 _ ?side1 ?side2 A38.out).mono ?_
              (case side1 => repeat (first | exact (Kd.R_reads' HO_331003.out).2.2 | (with_reducible refine Kd.C_alloc ?_ _) | (with_reducible refine Kd.C_drewN ?_ _) | (with_reducible refine Kd.C_drew ?_)))
              (case side2 => exact (Kd.R_reads' HO_331003.out).2.1)
              rintro e w41 ⟨v355, v358, rfl, ho0, ho1, hb⟩
              have HS4_ := (hb.cell (World.block_lt_of_cell? _ _ (hHeld.2.2.2.2.1))).trans (hHeld.2.2.2.2.1)
              have HS5_ := (hb.cell (World.block_lt_of_cell? _ _ (hHeld.2.2.2.2.2.1))).trans (hHeld.2.2.2.2.2.1)
              have HS6_ := (hb.cell (World.block_lt_of_cell? _ _ (hHeld.2.2.2.2.2.2))).trans (hHeld.2.2.2.2.2.2)
              refine ⟨_, rfl, ?_⟩
              have n0_ := uD (Kd.R_below (by (with_reducible repeat (first | apply uU | apply uS | apply uT)); exact HO_7.out) hb)
              have n1_ := uD (Kd.R_below (by (with_reducible repeat (first | apply uU | apply uS | apply uT)); exact HO_11.out) hb)
              have n2_ := uD (Kd.R_elder' (by (with_reducible repeat (first | apply uU | apply uS | apply uT)); exact HO_331003.out) (Kd.R_base ho0) hb)
              have n3_ := uD (Kd.R_lower (Kd.R_new' ho0 (Kd.R_lt (by (with_reducible repeat (first | apply uU | apply uS | apply uT)); exact HO_331003.out))) (uN (by repeat (first | (with_reducible first | exact HB.out | apply uL | apply uE | apply uK | refine uM ?_ GE330.out) | exact HB.out))))
              have n4_ := uD (Kd.R_lower ho1 (uN (by repeat (first | (with_reducible first | exact HB.out | apply uL | apply uE | apply uK | refine uM ?_ GE330.out) | exact HB.out))))
              have n5_ := uD (blk_below (g := gb330) (o := .cells #[.int .i64 t324, .int .i64 t325, .bool false, .slice Ao16 t327.length co16] 63 (0, 0)) (by (with_reducible repeat (first | refine uH ?_ _ | refine uJ ?_ | refine uG ?_ _)); exact BK330.out) hb)
              have n6_ := uD (uO (by repeat (first | (with_reducible first | exact HB.out | apply uL | apply uE | apply uK | refine uM ?_ GE330.out) | exact HB.out)) hb)
              clear HO_7
              clear HO_11
              clear HO_331003
              clear BK330
              clear HB
              have HO_7 := n0_
              have HO_11 := n1_
              have HO_331003 := n2_
              have HO356 := n3_
              have HO359 := n4_
              have BK330 := n5_
              have HB := n6_
              clear n0_ n1_ n2_ n3_ n4_ n5_ n6_
              (try clear hb)
              (try clear hb2)
              (try clear hk)
              (try clear hi)
              (try clear ho0)
              (try clear ho1)
              refine hK.out _ _ ⟨(uF BK330.out 0).trans rfl, (uF BK330.out 1).trans rfl, (uF BK330.out 2).trans rfl, (uF BK330.out 3).trans rfl, HS4_, HS5_, HS6_⟩ (fun hHeld => ?_)
              clear hK K
              refine norm_ (a' := ?_) ?_ ?_
              rotate_left
              ·show uc _ (some 93) _ = _
               simp only [uc, uA, uB, uC, uZ, ua]
               rfl
              refine ub (i := 9) (N := some 84) (v := ?_) (a' := ?_) #[true, true, true, true, true, true, true, true, true, true, false, false, false, false, false] rfl rfl (uY HT_.out (by kernel_rfl)) (fun _ _ _ h => h) (Or.inl ⟨by rfl, ?_⟩) ?_ ?_
              rotate_left
              ·intro w'
               go_simp
               with_reducible rfl
              rotate_left
              ·simp only [uc, uA, uB, uC, uZ, ua]
               rfl
              refine ub (i := 10) (N := some 94) (v := ?_) (a' := ?_) #[true, true, true, true, true, true, true, true, true, true, true, false, false, false, false] rfl rfl (uY HT_.out (by kernel_rfl)) (fun _ _ _ h => h) (Or.inl ⟨by rfl, ?_⟩) ?_ ?_
              rotate_left
              ·intro w'
               go_simp
               with_reducible rfl
              rotate_left
              ·simp only [uc, uA, uB, uC, uZ, ua]
               rfl
              refine ub (i := 11) (N := some 95) (v := ?_) (a' := ?_) #[true, true, true, true, true, true, true, true, true, true, true, true, false, false, false] rfl rfl (uY HT_.out (by kernel_rfl)) (fun _ _ _ h => h) (Or.inl ⟨by rfl, ?_⟩) ?_ ?_
              rotate_left
              ·intro w'
               go_simp
               with_reducible rfl
              rotate_left
              ·simp only [uc, uA, uB, uC, uZ, ua]
               rfl
              refine one_ (i := 12) (N := some 14) #[true, true, true, true, true, true, true, true, true, true, true, true, true, false, false] rfl rfl (one_of HT_.out (by kernel_rfl)) (by decide) (fun K hK => ?_)
              refine box_step ?hg (N := 14) ?hd (cs := #[.int .i64 0, .int .i64 0, .bool false, .slice none 0 0]) (t := 63) ?hr ?_; (case hd => rfl); (case hg => rfl); (case hr => first | (go_simp; done) | (go_simp; rfl))
              intro gb360 hg w42 hbox hb
              have HS4_ := (hb.cell (World.block_lt_of_cell? _ _ (hHeld.2.2.2.2.1))).trans (hHeld.2.2.2.2.1)
              have HS5_ := (hb.cell (World.block_lt_of_cell? _ _ (hHeld.2.2.2.2.2.1))).trans (hHeld.2.2.2.2.2.1)
              have HS6_ := (hb.cell (World.block_lt_of_cell? _ _ (hHeld.2.2.2.2.2.2))).trans (hHeld.2.2.2.2.2.2)
              have n0_ := uD (Kd.R_below (by (with_reducible repeat (first | apply uU | apply uS | apply uT)); exact HO_7.out) hb)
              have n1_ := uD (Kd.R_below (by (with_reducible repeat (first | apply uU | apply uS | apply uT)); exact HO_11.out) hb)
              have n2_ := uD (Kd.R_below (by (with_reducible repeat (first | apply uU | apply uS | apply uT)); exact HO_331003.out) hb)
              have n3_ := uD (Kd.R_below (by (with_reducible repeat (first | apply uU | apply uS | apply uT)); exact HO356.out) hb)
              have n4_ := uD (Kd.R_below (by (with_reducible repeat (first | apply uU | apply uS | apply uT)); exact HO359.out) hb)
              have n5_ := uD (blk_below (g := gb330) (o := .cells #[.int .i64 t324, .int .i64 t325, .bool false, .slice Ao16 t327.length co16] 63 (0, 0)) (by (with_reducible repeat (first | refine uH ?_ _ | refine uJ ?_ | refine uG ?_ _)); exact BK330.out) hb)
              have n6_ := uD (uO (by repeat (first | (with_reducible first | exact HB.out | apply uL | apply uE | apply uK | refine uM ?_ GE330.out) | exact HB.out)) hb)
              have n7_ := uD (hbox)
              have n8_ := uD ((by rw [hg]; exact (uN (by repeat (first | (with_reducible first | exact HB.out | apply uL | apply uE | apply uK | refine uM ?_ GE330.out) | exact HB.out))) : w.heap.size ≤ gb360))
              have n9_ := uD ((by rw [hg]; exact (uN (by repeat (first | (with_reducible first | exact HB.out | apply uL | apply uE | apply uK | refine uM ?_ GE330.out) | exact HB.out))) : w.heap.size ≤ gb360))
              have n10_ := uD ((by rw [hg]; exact Nat.ne_of_lt (blk_lt (g := gb330) (o := .cells #[.int .i64 t324, .int .i64 t325, .bool false, .slice Ao16 t327.length co16] 63 (0, 0)) (by (with_reducible repeat (first | refine uH ?_ _ | refine uJ ?_ | refine uG ?_ _)); exact BK330.out)) : gb330 ≠ gb360))
              have n11_ := uD ((by rw [hg]; exact Nat.ne_of_gt (blk_lt (g := gb330) (o := .cells #[.int .i64 t324, .int .i64 t325, .bool false, .slice Ao16 t327.length co16] 63 (0, 0)) (by (with_reducible repeat (first | refine uH ?_ _ | refine uJ ?_ | refine uG ?_ _)); exact BK330.out)) : gb360 ≠ gb330))
              clear HO_7
              clear HO_11
              clear HO_331003
              clear HO356
              clear HO359
              clear BK330
              clear HB
              have HO_7 := n0_
              have HO_11 := n1_
              have HO_331003 := n2_
              have HO356 := n3_
              have HO359 := n4_
              have BK330 := n5_
              have HB := n6_
              have BK360 := n7_
              have GW360 := n8_
              have GE360 := n9_
              have NB330_360 := n10_
              have NB360_330 := n11_
              clear n0_ n1_ n2_ n3_ n4_ n5_ n6_ n7_ n8_ n9_ n10_ n11_
              clear hb hbox hg
              refine hK.out _ _ ⟨(uF BK330.out 0).trans rfl, (uF BK330.out 1).trans rfl, (uF BK330.out 2).trans rfl, (uF BK330.out 3).trans rfl, HS4_, HS5_, HS6_⟩ (fun hHeld => ?_)
              clear hK K
              refine norm_ (a' := ?_) ?_ ?_
              rotate_left
              ·show uc _ (some 14) _ = _
               simp only [uc, uA, uB, uC, uZ, ua]
               rfl
              exact norm_ (by simp only [putAll, uc, uA, uB, uC]) (hCont (v355, v358, gb360) _ ⟨hHeld, (by (with_reducible repeat (first | apply uU | apply uS | apply uT)); exact uX HO356.out (fun _ hk => hk.2)), (by (with_reducible repeat (first | apply uU | apply uS | apply uT)); exact HO359.out), (by (with_reducible repeat (first | apply uU | apply uS | apply uT)); exact HO_11.out), (by (with_reducible repeat (first | apply uU | apply uS | apply uT)); exact uX HO_331003.out (fun _ hk => hk.2)), (by (with_reducible repeat (first | apply uU | apply uS | apply uT)); exact HO_7.out), (by (with_reducible repeat (first | refine uH ?_ _ | refine uJ ?_ | refine uG ?_ _)); exact BK330.out), (by (with_reducible repeat (first | refine uH ?_ _ | refine uJ ?_ | refine uG ?_ _)); exact BK360.out), GW360.out, GE360.out, NB330_360.out, NB360_330.out, (by repeat (first | (with_reducible first | exact HB.out | apply uL | apply uE | apply uK | refine uM ?_ GE330.out | refine uM ?_ GE360.out) | exact HB.out))⟩)
             ·skip
              refine box_step ?hg (N := 14) ?hd (cs := #[.int .i64 0, .int .i64 0, .bool false, .slice none 0 0]) (t := 63) ?hr ?_; (case hd => rfl); (case hg => rfl); (case hr => first | (go_simp; done) | (go_simp; rfl))
              intro gb360 hg w41 hbox hb
              have HS4_ := (hb.cell (World.block_lt_of_cell? _ _ (hHeld.2.2.2.2.1))).trans (hHeld.2.2.2.2.1)
              have HS5_ := (hb.cell (World.block_lt_of_cell? _ _ (hHeld.2.2.2.2.2.1))).trans (hHeld.2.2.2.2.2.1)
              have HS6_ := (hb.cell (World.block_lt_of_cell? _ _ (hHeld.2.2.2.2.2.2))).trans (hHeld.2.2.2.2.2.2)
              have n0_ := uD (Kd.R_below (by (with_reducible repeat (first | apply uU | apply uS | apply uT)); exact HO_7.out) hb)
              have n1_ := uD (Kd.R_below (by (with_reducible repeat (first | apply uU | apply uS | apply uT)); exact HO_11.out) hb)
              have n2_ := uD (Kd.R_below (by (with_reducible repeat (first | apply uU | apply uS | apply uT)); exact HO_331003.out) hb)
              have n3_ := uD (blk_below (g := gb330) (o := .cells #[.int .i64 t324, .int .i64 t325, .bool false, .slice Ao16 t327.length co16] 63 (0, 0)) (by (with_reducible repeat (first | refine uH ?_ _ | refine uJ ?_ | refine uG ?_ _)); exact BK330.out) hb)
              have n4_ := uD (uO (by repeat (first | (with_reducible first | exact HB.out | apply uL | apply uE | apply uK | refine uM ?_ GE330.out) | exact HB.out)) hb)
              have n5_ := uD (hbox)
              have n6_ := uD ((by rw [hg]; exact (uN (by repeat (first | (with_reducible first | exact HB.out | apply uL | apply uE | apply uK | refine uM ?_ GE330.out) | exact HB.out))) : w.heap.size ≤ gb360))
              have n7_ := uD ((by rw [hg]; exact (uN (by repeat (first | (with_reducible first | exact HB.out | apply uL | apply uE | apply uK | refine uM ?_ GE330.out) | exact HB.out))) : w.heap.size ≤ gb360))
              have n8_ := uD ((by rw [hg]; exact Nat.ne_of_lt (blk_lt (g := gb330) (o := .cells #[.int .i64 t324, .int .i64 t325, .bool false, .slice Ao16 t327.length co16] 63 (0, 0)) (by (with_reducible repeat (first | refine uH ?_ _ | refine uJ ?_ | refine uG ?_ _)); exact BK330.out)) : gb330 ≠ gb360))
              have n9_ := uD ((by rw [hg]; exact Nat.ne_of_gt (blk_lt (g := gb330) (o := .cells #[.int .i64 t324, .int .i64 t325, .bool false, .slice Ao16 t327.length co16] 63 (0, 0)) (by (with_reducible repeat (first | refine uH ?_ _ | refine uJ ?_ | refine uG ?_ _)); exact BK330.out)) : gb360 ≠ gb330))
              clear HO_7
              clear HO_11
              clear HO_331003
              clear BK330
              clear HB
              have HO_7 := n0_
              have HO_11 := n1_
              have HO_331003 := n2_
              have BK330 := n3_
              have HB := n4_
              have BK360 := n5_
              have GW360 := n6_
              have GE360 := n7_
              have NB330_360 := n8_
              have NB360_330 := n9_
              clear n0_ n1_ n2_ n3_ n4_ n5_ n6_ n7_ n8_ n9_
              clear hb hbox hg
              refine hK.out _ _ ⟨(uF BK330.out 0).trans rfl, (uF BK330.out 1).trans rfl, (uF BK330.out 2).trans rfl, (uF BK330.out 3).trans rfl, HS4_, HS5_, HS6_⟩ (fun hHeld => ?_)
              clear hK K
              refine norm_ (a' := ?_) ?_ ?_
              rotate_left
              ·show uc _ (some 14) _ = _
               simp only [uc, uA, uB, uC, uZ, ua]
               rfl
              refine one_ (i := 8) (N := some 93) #[true, true, true, true, true, true, true, true, true, false, false, false, true, false, false] rfl rfl (one_of HT_.out (by kernel_rfl)) (by decide) (fun K hK => ?_)
              refine goes_ Try.func47 (by kernel_rfl) rfl #[.agg #[.int .i64 t324, .int .i64 t325, .bool false, .slice Ao16 t327.length co16], .int .i64 (wrap64 (((rd_T47 t336 x13_2).f1) - (Int.tmod (rd t331 1) 1000)))] (by rfl) rfl rfl (by (try simp only [List.map_toArray, List.map_cons, List.map_nil]); first | done | rfl | (simp only [List.length_drop, List.length_take]; rfl)) ?_
              with_reducible refine (spec_Run.calls k2 t324 t325 false _ _ t327 (wrap64 (((rd_T47 t336 x13_2).f1) - (Int.tmod (rd t331 1) 1000))) t351 t352 t353 t354 t357 _ ?side1 ?side2 A38.out).mono ?_
              (case side1 => repeat (first | exact (Kd.R_reads' HO_331003.out).2.2 | (with_reducible refine Kd.C_alloc ?_ _) | (with_reducible refine Kd.C_drewN ?_ _) | (with_reducible refine Kd.C_drew ?_)))
              (case side2 => exact (Kd.R_reads' HO_331003.out).2.1)
              rintro e w42 ⟨v355, v358, rfl, ho0, ho1, hb⟩
              have HS4_ := (hb.cell (World.block_lt_of_cell? _ _ (hHeld.2.2.2.2.1))).trans (hHeld.2.2.2.2.1)
              have HS5_ := (hb.cell (World.block_lt_of_cell? _ _ (hHeld.2.2.2.2.2.1))).trans (hHeld.2.2.2.2.2.1)
              have HS6_ := (hb.cell (World.block_lt_of_cell? _ _ (hHeld.2.2.2.2.2.2))).trans (hHeld.2.2.2.2.2.2)
              refine ⟨_, rfl, ?_⟩
              have n0_ := uD (Kd.R_below (by (with_reducible repeat (first | apply uU | apply uS | apply uT)); exact HO_7.out) hb)
              have n1_ := uD (Kd.R_below (by (with_reducible repeat (first | apply uU | apply uS | apply uT)); exact HO_11.out) hb)
              have n2_ := uD (Kd.R_elder' (by (with_reducible repeat (first | apply uU | apply uS | apply uT)); exact HO_331003.out) (Kd.R_base ho0) hb)
              have n3_ := uD (Kd.R_lower (Kd.R_new' ho0 (Kd.R_lt (by (with_reducible repeat (first | apply uU | apply uS | apply uT)); exact HO_331003.out))) (uN (by repeat (first | (with_reducible first | exact HB.out | apply uL | apply uE | apply uK | refine uM ?_ GE330.out | refine uM ?_ GE360.out) | exact HB.out))))
              have n4_ := uD (Kd.R_lower ho1 (uN (by repeat (first | (with_reducible first | exact HB.out | apply uL | apply uE | apply uK | refine uM ?_ GE330.out | refine uM ?_ GE360.out) | exact HB.out))))
              have n5_ := uD (blk_below (g := gb330) (o := .cells #[.int .i64 t324, .int .i64 t325, .bool false, .slice Ao16 t327.length co16] 63 (0, 0)) (by (with_reducible repeat (first | refine uH ?_ _ | refine uJ ?_ | refine uG ?_ _)); exact BK330.out) hb)
              have n6_ := uD (blk_below (g := gb360) (o := .cells #[.int .i64 0, .int .i64 0, .bool false, .slice none 0 0] 63 (0, 0)) (by (with_reducible repeat (first | refine uH ?_ _ | refine uJ ?_ | refine uG ?_ _)); exact BK360.out) hb)
              have n7_ := uD (uO (by repeat (first | (with_reducible first | exact HB.out | apply uL | apply uE | apply uK | refine uM ?_ GE330.out | refine uM ?_ GE360.out) | exact HB.out)) hb)
              clear HO_7
              clear HO_11
              clear HO_331003
              clear BK330
              clear BK360
              clear HB
              have HO_7 := n0_
              have HO_11 := n1_
              have HO_331003 := n2_
              have HO356 := n3_
              have HO359 := n4_
              have BK330 := n5_
              have BK360 := n6_
              have HB := n7_
              clear n0_ n1_ n2_ n3_ n4_ n5_ n6_ n7_
              (try clear hb)
              (try clear hb2)
              (try clear hk)
              (try clear hi)
              (try clear ho0)
              (try clear ho1)
              refine hK.out _ _ ⟨(uF BK330.out 0).trans rfl, (uF BK330.out 1).trans rfl, (uF BK330.out 2).trans rfl, (uF BK330.out 3).trans rfl, HS4_, HS5_, HS6_⟩ (fun hHeld => ?_)
              clear hK K
              refine norm_ (a' := ?_) ?_ ?_
              rotate_left
              ·show uc _ (some 93) _ = _
               simp only [uc, uA, uB, uC, uZ, ua]
               rfl
              refine ub (i := 9) (N := some 84) (v := ?_) (a' := ?_) #[true, true, true, true, true, true, true, true, true, true, false, false, true, false, false] rfl rfl (uY HT_.out (by kernel_rfl)) (fun _ _ _ h => h) (Or.inl ⟨by rfl, ?_⟩) ?_ ?_
              rotate_left
              ·intro w'
               go_simp
               with_reducible rfl
              rotate_left
              ·simp only [uc, uA, uB, uC, uZ, ua]
               rfl
              refine ub (i := 10) (N := some 94) (v := ?_) (a' := ?_) #[true, true, true, true, true, true, true, true, true, true, true, false, true, false, false] rfl rfl (uY HT_.out (by kernel_rfl)) (fun _ _ _ h => h) (Or.inl ⟨by rfl, ?_⟩) ?_ ?_
              rotate_left
              ·intro w'
               go_simp
               with_reducible rfl
              rotate_left
              ·simp only [uc, uA, uB, uC, uZ, ua]
               rfl
              refine ub (i := 11) (N := some 95) (v := ?_) (a' := ?_) #[true, true, true, true, true, true, true, true, true, true, true, true, true, false, false] rfl rfl (uY HT_.out (by kernel_rfl)) (fun _ _ _ h => h) (Or.inl ⟨by rfl, ?_⟩) ?_ ?_
              rotate_left
              ·intro w'
               go_simp
               with_reducible rfl
              rotate_left
              ·simp only [uc, uA, uB, uC, uZ, ua]
               rfl
              exact norm_ (by simp only [putAll, uc, uA, uB, uC]) (hCont (v355, v358, gb360) _ ⟨hHeld, (by (with_reducible repeat (first | apply uU | apply uS | apply uT)); exact uX HO356.out (fun _ hk => hk.2)), (by (with_reducible repeat (first | apply uU | apply uS | apply uT)); exact HO359.out), (by (with_reducible repeat (first | apply uU | apply uS | apply uT)); exact HO_11.out), (by (with_reducible repeat (first | apply uU | apply uS | apply uT)); exact uX HO_331003.out (fun _ hk => hk.2)), (by (with_reducible repeat (first | apply uU | apply uS | apply uT)); exact HO_7.out), (by (with_reducible repeat (first | refine uH ?_ _ | refine uJ ?_ | refine uG ?_ _)); exact BK330.out), (by (with_reducible repeat (first | refine uH ?_ _ | refine uJ ?_ | refine uG ?_ _)); exact BK360.out), GW360.out, GE360.out, NB330_360.out, NB360_330.out, (by repeat (first | (with_reducible first | exact HB.out | apply uL | apply uE | apply uK | refine uM ?_ GE330.out | refine uM ?_ GE360.out) | exact HB.out))⟩)
            rintro ⟨v355, v358, gb360⟩ w43 ⟨hS_, h0_, h1_, h2_, h3_, h4_, h5_, h6_, h7_, h8_, h9_, h10_, h11_⟩
            have n0_ : Aside0 (Kd.R k74 74 w43 w.heap.size (fun k_ => some k_ ≠ (.slice Ao16 t327.length co16 : Value).ownBlock) v355 t354) := ⟨h0_⟩
            have n1_ : Aside0 (Kd.R k116 116 w43 w.heap.size (fun _ => True) v358 t357) := ⟨h1_⟩
            have n2_ : Aside0 (Kd.R k47 47 w43 w.heap.size (fun k_ => some k_ ≠ (.slice (some ad350) t336.length co39 : Value).ownBlock) v345 t344) := ⟨h2_⟩
            have n3_ : Aside0 (Kd.R k74 74 w43 w.heap.size (fun k_ => some k_ ≠ (v355 : Value).ownBlock) (.slice Ao16 t327.length co16) t327) := ⟨h3_⟩
            have n4_ : Aside0 (Kd.R k47 47 w43 w.heap.size (fun k_ => some k_ ≠ (v345 : Value).ownBlock) (.slice (some ad350) t336.length co39) t336) := ⟨h4_⟩
            have n5_ : Aside0 (w43.heap[gb330]? = some (.cells #[.int .i64 t324, .int .i64 t325, .bool false, .slice Ao16 t327.length co16] 63 (0, 0))) := ⟨h5_⟩
            have n6_ : Aside0 (w43.heap[gb360]? = some (.cells #[.int .i64 0, .int .i64 0, .bool false, .slice none 0 0] 63 (0, 0))) := ⟨h6_⟩
            have n7_ : Aside0 (w.heap.size ≤ gb360) := ⟨h7_⟩
            have n8_ : Aside0 (w.heap.size ≤ gb360) := ⟨h8_⟩
            have n9_ : Aside0 (gb330 ≠ gb360) := ⟨h9_⟩
            have n10_ : Aside0 (gb360 ≠ gb330) := ⟨h10_⟩
            have n11_ : Aside0 (Below w.heap.size w w43) := ⟨h11_⟩
            clear HO_7
            clear HO_11
            clear HO_331003
            clear BK330
            clear HB
            clear h0_ h1_ h2_ h3_ h4_ h5_ h6_ h7_ h8_ h9_ h10_ h11_
            have HO356 := n0_
            have HO359 := n1_
            have HO_11 := n2_
            have HO_331003 := n3_
            have HO_7 := n4_
            have BK330 := n5_
            have BK360 := n6_
            have GW360 := n7_
            have GE360 := n8_
            have NB330_360 := n9_
            have NB360_330 := n10_
            have HB := n11_
            clear n0_ n1_ n2_ n3_ n4_ n5_ n6_ n7_ n8_ n9_ n10_ n11_
            have hHeld : w43.cell? ⟨gb330, 0, none⟩ = some (.int .i64 t324) ∧ w43.cell? ⟨gb330, 1, none⟩ = some (.int .i64 t325) ∧ w43.cell? ⟨gb330, 2, none⟩ = some (.bool false) ∧ w43.cell? ⟨gb330, 3, none⟩ = some (.slice Ao16 t327.length co16) ∧ w43.cell? (ad350.add ((x13_2).toNat * 3)) = some (.int .i64 ((rd_T47 t336 x13_2).f0)) ∧ w43.cell? ⟨(ad350.add ((x13_2).toNat * 3)).block, (ad350.add ((x13_2).toNat * 3)).off + 1, none⟩ = some (.int .i64 ((rd_T47 t336 x13_2).f1)) ∧ w43.cell? ⟨(ad350.add ((x13_2).toNat * 3)).block, (ad350.add ((x13_2).toNat * 3)).off + 2, none⟩ = some (.int .i64 ((rd_T47 t336 x13_2).f2)) := hS_
            obtain ⟨Ao47, co47, eo47⟩ := Kd.R_slice HO356.out
            (first | subst eo47 | (injection eo47 with f1_ f2_ f3_; have f4_ := f1_.symm; have f5_ := f3_.symm; clear f1_ f2_ f3_; subst f4_; subst f5_))
            refine norm_ (a' := ?_) ?_ ?_
            rotate_left
            ·simp only [putAll, uc, uA, uB, uC]
             rfl
            refine one_ (i := 13) (N := none) #[true, true, true, true, true, true, true, true, true, true, true, true, true, true, false] rfl rfl (one_of HT_.out (by kernel_rfl)) (by decide) (fun K hK => ?_)
            have hs44 : w43.cell? ⟨gb360, 0, none⟩ = some (.int .i64 0) := (uF BK360.out 0).trans rfl
            have hfs44 := uI BK360.out 0
            have hns44_0 := NB330_360.out
            have hms44_0 := NB360_330.out
            have hs45 : w43.cell? ⟨gb360, 1, none⟩ = some (.int .i64 0) := (uF BK360.out 1).trans rfl
            have hfs45 := uI BK360.out 1
            have hns45_0 := NB330_360.out
            have hms45_0 := NB360_330.out
            have hs46 : w43.cell? ⟨gb360, 2, none⟩ = some (.bool false) := (uF BK360.out 2).trans rfl
            have hfs46 := uI BK360.out 2
            have hns46_0 := NB330_360.out
            have hms46_0 := NB360_330.out
            have hs48 : w43.cell? ⟨gb360, 3, none⟩ = some (.slice none 0 0) := (uF BK360.out 3).trans rfl
            have hfs48 := uI BK360.out 3
            have hns48_0 := NB330_360.out
            have hms48_0 := NB360_330.out
            refine skip_ (w1 := ?_) (by rfl) rfl ?_ ?_
            rotate_left
            ·go_simp
             rfl
            refine hK.out _ _ ⟨((cell_far (p := ⟨gb360, _, none⟩) NB330_360.out _).trans (((cell_far (p := ⟨gb360, _, none⟩) NB330_360.out _).trans (((cell_far (p := ⟨gb360, _, none⟩) NB330_360.out _).trans (((cell_far (p := ⟨gb360, _, none⟩) NB330_360.out _).trans (hHeld.1)))))))), ((cell_far (p := ⟨gb360, _, none⟩) NB330_360.out _).trans (((cell_far (p := ⟨gb360, _, none⟩) NB330_360.out _).trans (((cell_far (p := ⟨gb360, _, none⟩) NB330_360.out _).trans (((cell_far (p := ⟨gb360, _, none⟩) NB330_360.out _).trans (hHeld.2.1)))))))), ((cell_far (p := ⟨gb360, _, none⟩) NB330_360.out _).trans (((cell_far (p := ⟨gb360, _, none⟩) NB330_360.out _).trans (((cell_far (p := ⟨gb360, _, none⟩) NB330_360.out _).trans (((cell_far (p := ⟨gb360, _, none⟩) NB330_360.out _).trans (hHeld.2.2.1)))))))), ((cell_far (p := ⟨gb360, _, none⟩) NB330_360.out _).trans (((cell_far (p := ⟨gb360, _, none⟩) NB330_360.out _).trans (((cell_far (p := ⟨gb360, _, none⟩) NB330_360.out _).trans (((cell_far (p := ⟨gb360, _, none⟩) NB330_360.out _).trans (hHeld.2.2.2.1)))))))), ((cell_far (p := ⟨gb360, _, none⟩) (by first | exact Kd.own_blk (Kd.R_ne HO_7.out BK360.out (by decide)) | (rw [add_block]; exact Kd.own_blk (Kd.R_ne HO_7.out BK360.out (by decide))) | (show (Addr.add _ _).block ≠ _; rw [add_block]; exact Kd.own_blk (Kd.R_ne HO_7.out BK360.out (by decide))) | (dsimp only; exact Kd.own_blk (Kd.R_ne HO_7.out BK360.out (by decide)))) _).trans (((cell_far (p := ⟨gb360, _, none⟩) (by first | exact Kd.own_blk (Kd.R_ne HO_7.out BK360.out (by decide)) | (rw [add_block]; exact Kd.own_blk (Kd.R_ne HO_7.out BK360.out (by decide))) | (show (Addr.add _ _).block ≠ _; rw [add_block]; exact Kd.own_blk (Kd.R_ne HO_7.out BK360.out (by decide))) | (dsimp only; exact Kd.own_blk (Kd.R_ne HO_7.out BK360.out (by decide)))) _).trans (((cell_far (p := ⟨gb360, _, none⟩) (by first | exact Kd.own_blk (Kd.R_ne HO_7.out BK360.out (by decide)) | (rw [add_block]; exact Kd.own_blk (Kd.R_ne HO_7.out BK360.out (by decide))) | (show (Addr.add _ _).block ≠ _; rw [add_block]; exact Kd.own_blk (Kd.R_ne HO_7.out BK360.out (by decide))) | (dsimp only; exact Kd.own_blk (Kd.R_ne HO_7.out BK360.out (by decide)))) _).trans (((cell_far (p := ⟨gb360, _, none⟩) (by first | exact Kd.own_blk (Kd.R_ne HO_7.out BK360.out (by decide)) | (rw [add_block]; exact Kd.own_blk (Kd.R_ne HO_7.out BK360.out (by decide))) | (show (Addr.add _ _).block ≠ _; rw [add_block]; exact Kd.own_blk (Kd.R_ne HO_7.out BK360.out (by decide))) | (dsimp only; exact Kd.own_blk (Kd.R_ne HO_7.out BK360.out (by decide)))) _).trans (hHeld.2.2.2.2.1)))))))), ((cell_far (p := ⟨gb360, _, none⟩) (by first | exact Kd.own_blk (Kd.R_ne HO_7.out BK360.out (by decide)) | (rw [add_block]; exact Kd.own_blk (Kd.R_ne HO_7.out BK360.out (by decide))) | (show (Addr.add _ _).block ≠ _; rw [add_block]; exact Kd.own_blk (Kd.R_ne HO_7.out BK360.out (by decide))) | (dsimp only; exact Kd.own_blk (Kd.R_ne HO_7.out BK360.out (by decide)))) _).trans (((cell_far (p := ⟨gb360, _, none⟩) (by first | exact Kd.own_blk (Kd.R_ne HO_7.out BK360.out (by decide)) | (rw [add_block]; exact Kd.own_blk (Kd.R_ne HO_7.out BK360.out (by decide))) | (show (Addr.add _ _).block ≠ _; rw [add_block]; exact Kd.own_blk (Kd.R_ne HO_7.out BK360.out (by decide))) | (dsimp only; exact Kd.own_blk (Kd.R_ne HO_7.out BK360.out (by decide)))) _).trans (((cell_far (p := ⟨gb360, _, none⟩) (by first | exact Kd.own_blk (Kd.R_ne HO_7.out BK360.out (by decide)) | (rw [add_block]; exact Kd.own_blk (Kd.R_ne HO_7.out BK360.out (by decide))) | (show (Addr.add _ _).block ≠ _; rw [add_block]; exact Kd.own_blk (Kd.R_ne HO_7.out BK360.out (by decide))) | (dsimp only; exact Kd.own_blk (Kd.R_ne HO_7.out BK360.out (by decide)))) _).trans (((cell_far (p := ⟨gb360, _, none⟩) (by first | exact Kd.own_blk (Kd.R_ne HO_7.out BK360.out (by decide)) | (rw [add_block]; exact Kd.own_blk (Kd.R_ne HO_7.out BK360.out (by decide))) | (show (Addr.add _ _).block ≠ _; rw [add_block]; exact Kd.own_blk (Kd.R_ne HO_7.out BK360.out (by decide))) | (dsimp only; exact Kd.own_blk (Kd.R_ne HO_7.out BK360.out (by decide)))) _).trans (hHeld.2.2.2.2.2.1)))))))), ((cell_far (p := ⟨gb360, _, none⟩) (by first | exact Kd.own_blk (Kd.R_ne HO_7.out BK360.out (by decide)) | (rw [add_block]; exact Kd.own_blk (Kd.R_ne HO_7.out BK360.out (by decide))) | (show (Addr.add _ _).block ≠ _; rw [add_block]; exact Kd.own_blk (Kd.R_ne HO_7.out BK360.out (by decide))) | (dsimp only; exact Kd.own_blk (Kd.R_ne HO_7.out BK360.out (by decide)))) _).trans (((cell_far (p := ⟨gb360, _, none⟩) (by first | exact Kd.own_blk (Kd.R_ne HO_7.out BK360.out (by decide)) | (rw [add_block]; exact Kd.own_blk (Kd.R_ne HO_7.out BK360.out (by decide))) | (show (Addr.add _ _).block ≠ _; rw [add_block]; exact Kd.own_blk (Kd.R_ne HO_7.out BK360.out (by decide))) | (dsimp only; exact Kd.own_blk (Kd.R_ne HO_7.out BK360.out (by decide)))) _).trans (((cell_far (p := ⟨gb360, _, none⟩) (by first | exact Kd.own_blk (Kd.R_ne HO_7.out BK360.out (by decide)) | (rw [add_block]; exact Kd.own_blk (Kd.R_ne HO_7.out BK360.out (by decide))) | (show (Addr.add _ _).block ≠ _; rw [add_block]; exact Kd.own_blk (Kd.R_ne HO_7.out BK360.out (by decide))) | (dsimp only; exact Kd.own_blk (Kd.R_ne HO_7.out BK360.out (by decide)))) _).trans (((cell_far (p := ⟨gb360, _, none⟩) (by first | exact Kd.own_blk (Kd.R_ne HO_7.out BK360.out (by decide)) | (rw [add_block]; exact Kd.own_blk (Kd.R_ne HO_7.out BK360.out (by decide))) | (show (Addr.add _ _).block ≠ _; rw [add_block]; exact Kd.own_blk (Kd.R_ne HO_7.out BK360.out (by decide))) | (dsimp only; exact Kd.own_blk (Kd.R_ne HO_7.out BK360.out (by decide)))) _).trans (hHeld.2.2.2.2.2.2))))))))⟩ (fun hHeld => ?_)
            clear hK K
            refine ub (i := 14) (N := some 15) (v := ?_) (a' := ?_) #[true, true, true, true, true, true, true, true, true, true, true, true, true, true, true] rfl rfl (uY HT_.out (by kernel_rfl)) (fun _ _ _ h => h) (Or.inl ⟨by rfl, ?_⟩) ?_ ?_
            rotate_left
            ·intro w'
             go_simp
             with_reducible rfl
            rotate_left
            ·simp only [uc, uA, uB, uC, uZ, ua]
             rfl
            refine done_ (done_of HT_.out (by kernel_rfl)) ?_
            try go_wp2
            go_loopg [16, 17] k2 (fun kq v16 v17 w' => ∃ (x16_3 : Bool) (x17_3 : Int), v16 = .bool x16_3 ∧ v17 = .int .i64 x17_3 ∧ Aside0 (laws_FnWindows.l1 kq (wrap64 (1 + (Int.tmod (rd t331 0) t324))) (Int.tmod (rd t331 1) 1000) t336 t344 x13_2 x16_3 x17_3 t324 t325 false t327 t351 t352 t353 t354 = some true) ∧ Aside0 (kq ≤ k2) ∧ Aside0 (Kd.R k47 47 w' w.heap.size (fun k_ => some k_ ≠ (v345 : Value).ownBlock) (.slice (some ad350) t336.length co39) t336) ∧ Aside0 (Kd.R k47 47 w' w.heap.size (fun k_ => some k_ ≠ ((.slice (some ad350) t336.length co39) : Value).ownBlock) v345 t344) ∧ Aside0 (Kd.R k74 74 w' w.heap.size (fun k_ => some k_ ≠ ((.slice Ao47 t354.length co47) : Value).ownBlock) (.slice Ao16 t327.length co16) t327) ∧ Aside0 (Kd.R k74 74 w' w.heap.size (fun k_ => some k_ ≠ ((.slice Ao16 t327.length co16) : Value).ownBlock) (.slice Ao47 t354.length co47) t354) ∧ Aside0 (w'.heap[gb330]? = some (.cells #[.int .i64 t324, .int .i64 t325, .bool false, (.slice Ao16 t327.length co16)] 63 (0, 0))) ∧ Aside0 (w'.heap[gb360]? = some (.cells #[.int .i64 t351, .int .i64 t352, .bool t353, (.slice Ao47 t354.length co47)] 63 (0, 0))) ∧ Aside0 (Below w.heap.size w w'))
            case atStart => exact ⟨(false), (0), (by first | rfl | (simp; done) | (simp [*]; done)), (by first | rfl | (simp; done) | (simp [*]; done)), H', ⟨Nat.le_refl _⟩, ⟨by (with_reducible repeat (first | apply uU | apply uS | apply uT)); exact uX (uV (p := ⟨gb360, 3, none⟩) (uV (p := ⟨gb360, 2, none⟩) (uV (p := ⟨gb360, 1, none⟩) (uV (p := ⟨gb360, 0, none⟩) (uW HO_7.out BK360.out (by decide)) (fun _ hk => hk.2) (.int .i64 t351)) (fun _ hk => hk.2) (.int .i64 t352)) (fun _ hk => hk.2) (.bool t353)) (fun _ hk => hk.2) (.slice Ao47 t354.length co47)) (fun _ hk => hk.1)⟩, ⟨by (with_reducible repeat (first | apply uU | apply uS | apply uT)); exact uX (uV (p := ⟨gb360, 3, none⟩) (uV (p := ⟨gb360, 2, none⟩) (uV (p := ⟨gb360, 1, none⟩) (uV (p := ⟨gb360, 0, none⟩) (uW HO_11.out BK360.out (by decide)) (fun _ hk => hk.2) (.int .i64 t351)) (fun _ hk => hk.2) (.int .i64 t352)) (fun _ hk => hk.2) (.bool t353)) (fun _ hk => hk.2) (.slice Ao47 t354.length co47)) (fun _ hk => hk.1)⟩, ⟨by (with_reducible repeat (first | apply uU | apply uS | apply uT)); exact uX (uV (p := ⟨gb360, 3, none⟩) (uV (p := ⟨gb360, 2, none⟩) (uV (p := ⟨gb360, 1, none⟩) (uV (p := ⟨gb360, 0, none⟩) (uW HO_331003.out BK360.out (by decide)) (fun _ hk => hk.2) (.int .i64 t351)) (fun _ hk => hk.2) (.int .i64 t352)) (fun _ hk => hk.2) (.bool t353)) (fun _ hk => hk.2) (.slice Ao47 t354.length co47)) (fun _ hk => hk.1)⟩, ⟨by (with_reducible repeat (first | apply uU | apply uS | apply uT)); exact uX (uV (p := ⟨gb360, 3, none⟩) (uV (p := ⟨gb360, 2, none⟩) (uV (p := ⟨gb360, 1, none⟩) (uV (p := ⟨gb360, 0, none⟩) (uW HO356.out BK360.out (by decide)) (fun _ hk => hk.2) (.int .i64 t351)) (fun _ hk => hk.2) (.int .i64 t352)) (fun _ hk => hk.2) (.bool t353)) (fun _ hk => hk.2) (.slice Ao47 t354.length co47)) (fun _ hk => hk.1)⟩, ⟨by (with_reducible repeat (first | refine uH ?_ _ | refine uJ ?_ | refine uG ?_ _)); refine uQ ?_ NB330_360.out _; (with_reducible repeat (first | refine uH ?_ _ | refine uJ ?_ | refine uG ?_ _)); refine uQ ?_ NB330_360.out _; (with_reducible repeat (first | refine uH ?_ _ | refine uJ ?_ | refine uG ?_ _)); refine uQ ?_ NB330_360.out _; (with_reducible repeat (first | refine uH ?_ _ | refine uJ ?_ | refine uG ?_ _)); refine uQ ?_ NB330_360.out _; (with_reducible repeat (first | refine uH ?_ _ | refine uJ ?_ | refine uG ?_ _)); exact BK330.out⟩, ⟨by (with_reducible repeat (first | refine uH ?_ _ | refine uJ ?_ | refine uG ?_ _)); refine uP (cs := #[.int .i64 t351, .int .i64 t352, .bool t353, .slice none 0 0]) ?_ 3 _ rfl; (with_reducible repeat (first | refine uH ?_ _ | refine uJ ?_ | refine uG ?_ _)); refine uP (cs := #[.int .i64 t351, .int .i64 t352, .bool false, .slice none 0 0]) ?_ 2 _ rfl; (with_reducible repeat (first | refine uH ?_ _ | refine uJ ?_ | refine uG ?_ _)); refine uP (cs := #[.int .i64 t351, .int .i64 0, .bool false, .slice none 0 0]) ?_ 1 _ rfl; (with_reducible repeat (first | refine uH ?_ _ | refine uJ ?_ | refine uG ?_ _)); refine uP (cs := #[.int .i64 0, .int .i64 0, .bool false, .slice none 0 0]) ?_ 0 _ rfl; (with_reducible repeat (first | refine uH ?_ _ | refine uJ ?_ | refine uG ?_ _)); exact BK360.out⟩, ⟨by repeat (first | (with_reducible first | exact HB.out | apply uL | apply uE | apply uK | refine uM ?_ GE330.out | refine uM ?_ GE360.out) | exact HB.out)⟩⟩
            case round =>
             clear H'
             try clear c1
             try clear c2
             try clear p2
             try clear c3
             try clear p3
             try clear q3
             try clear hx3
             try clear qi3
             try clear c4
             try clear c6
             try clear c6b0
             try clear c6b1
             try clear p6
             try clear c7
             try clear c7b0
             try clear c7b1
             try clear c8
             try clear c8b0
             try clear c8b1
             try clear c11
             try clear c28
             try clear c28b0
             try clear c28b1
             try clear c28b2
             try clear c29
             try clear c29b0
             try clear c29b1
             try clear c29b2
             try clear c30
             try clear c30b0
             try clear c30b1
             try clear c30b2
             try clear p33
             try clear q33
             try clear hx33
             try clear qi33
             try clear c34
             try clear c35
             try clear p35
             try clear q35
             try clear hx35
             try clear c36
             try clear c36b0
             try clear c37
             try clear c37b0
             try clear c47
             try clear hcz15_0
             try clear hcz15_1
             try clear hcz15_2
             try clear hcz15_3
             try clear hcz18_0
             try clear hcz18_1
             try clear hcz18_2
             try clear hcz18_3
             try clear hcz22_0
             try clear hcz22_1
             try clear hcz22_2
             try clear hcz22_3
             try clear hcz24_0
             try clear hcz24_1
             try clear hcz24_2
             try clear hcz24_3
             try clear hcz26_0
             try clear hcz26_1
             try clear hcz26_2
             try clear hcz26_3
             try clear hfz15_0
             try clear hfz15_1
             try clear hfz15_2
             try clear hfz15_3
             try clear hfz18_0
             try clear hfz18_1
             try clear hfz18_2
             try clear hfz18_3
             try clear hfz22_0
             try clear hfz22_1
             try clear hfz22_2
             try clear hfz22_3
             try clear hfz24_0
             try clear hfz24_1
             try clear hfz24_2
             try clear hfz24_3
             try clear hfz26_0
             try clear hfz26_1
             try clear hfz26_2
             try clear hfz26_3
             try clear hx334_0
             try clear hx335_0
             try clear hx350_0
             try clear hx350_1
             try clear hx350_2
             try clear p2
             try clear p3
             try clear p33
             try clear p334
             try clear p335
             try clear p350
             try clear p6
             try clear q3
             try clear q33
             try clear q334
             try clear q335
             try clear q350
             obtain ⟨x16_3, x17_3, rfl, rfl, HA, HK3, HO_7, HO_11, HO_331003, HO_361003, BK330, BK360, HB⟩ := hrel
             cases gk with
             | zero => exact absurd HA.out (by simp [laws_FnWindows.l1])
             | succ k3 =>
              have H := HA.out
              clear HA
              simp only [laws_FnWindows.l1] at H
              by_cases c49 : x17_3 < (t354.length : Int)
              ·rw [if_pos c49] at H
               have c49b0 : decide (x17_3 < (t354.length : Int)) = true := decide_eq_true c49
               clear c49
               by_cases c50 : x16_3 = true
               ·subst c50
                have H1 : (laws_FnWindows.l1 k3 (wrap64 (1 + (Int.tmod (rd t331 0) t324))) (Int.tmod (rd t331 1) 1000) t336 t344 x13_2 true (wrap64 (x17_3 + 1)) t324 t325 false t327 t351 t352 t353 t354) = some true := by rw [if_pos rfl] at H; first | done | exact H
                clear H
                have H := H1
                clear H1
                have H' := uD H
                clear H
                have hnb51 := NB360_330.out
                have hnc51 := NB330_360.out
                have hcz52_0 : wr.cell? ⟨gb360, 0, none⟩ = some (.int .i64 t351) := (uF BK360.out 0).trans rfl
                have hcz52_1 : wr.cell? ⟨gb360, 1, none⟩ = some (.int .i64 t352) := (uF BK360.out 1).trans rfl
                have hcz52_2 : wr.cell? ⟨gb360, 2, none⟩ = some (.bool t353) := (uF BK360.out 2).trans rfl
                have hcz52_3 : wr.cell? ⟨gb360, 3, none⟩ = some (.slice Ao47 t354.length co47) := (uF BK360.out 3).trans rfl
                have hfz52_0 := uI BK360.out 0
                have hfz52_1 := uI BK360.out 1
                have hfz52_2 := uI BK360.out 2
                have hfz52_3 := uI BK360.out 3
                try go_wp2
                have n0_ := uD (uT HO_7.out)
                have n1_ := uD (uT HO_11.out)
                have n2_ := uD (uT HO_331003.out)
                have n3_ := uD (uT HO_361003.out)
                have n4_ := uD (uJ BK330.out)
                have n5_ := uD (uJ BK360.out)
                have n6_ := uD (uK HB.out)
                clear HO_7
                clear HO_11
                clear HO_331003
                clear HO_361003
                clear BK330
                clear BK360
                clear HB
                have HO_7 := n0_
                have HO_11 := n1_
                have HO_331003 := n2_
                have HO_361003 := n3_
                have BK330 := n4_
                have BK360 := n5_
                have HB := n6_
                clear n0_ n1_ n2_ n3_ n4_ n5_ n6_
                refine start_ (n := 26) (S := fun w' => True) (ds := []) #[false, false, false, false, false, false, false, false, false, false, false, false, false, false, false, false, false, false, false, false, false, false, false, false, false, false] (by kernel_rfl) rfl rfl trivial (fun hHeld => ?_); refine with_tabW laws_FnWindows.tab21 laws_FnWindows.bits21 (fun HT_ HW_ => ?_)
                generalize wr.drew = w53 at HO_7 HO_11 HO_331003 HO_361003 BK330 BK360 HB hHeld ⊢
                refine ub (i := 0) (N := some 103) (v := ?_) (a' := ?_) #[true, false, false, false, false, false, false, false, false, false, false, false, false, false, false, false, false, false, false, false, false, false, false, false, false, false] rfl rfl (uY HT_.out (by kernel_rfl)) (fun _ _ _ h => h) (Or.inl ⟨by rfl, ?_⟩) ?_ ?_
                rotate_left
                ·intro w'
                 go_simp
                 with_reducible rfl
                rotate_left
                ·simp only [uc, uA, uB, uC, uZ, ua]
                 rfl
                refine ub (i := 1) (N := some 104) (v := ?_) (a' := ?_) #[true, true, false, false, false, false, false, false, false, false, false, false, false, false, false, false, false, false, false, false, false, false, false, false, false, false] rfl rfl (uY HT_.out (by kernel_rfl)) (fun _ _ _ h => h) (Or.inl ⟨by rfl, ?_⟩) ?_ ?_
                rotate_left
                ·intro w'
                 go_simp
                 with_reducible rfl
                rotate_left
                ·simp only [uc, uA, uB, uC, uZ, ua]
                 rfl
                refine ub (i := 2) (N := some 105) (v := undef) (a' := ?_) #[true, true, true, false, false, false, false, false, false, false, false, false, false, false, false, false, false, false, false, false, false, false, false, false, false, false] rfl rfl (uY HT_.out (by kernel_rfl)) (fun _ _ _ h => h) (Or.inr ⟨by rfl, rfl⟩) ?_ ?_
                rotate_left
                ·simp only [uc, uA, uB, uC, uZ, ua]
                 rfl
                refine ub (i := 3) (N := some 106) (v := undef) (a' := ?_) #[true, true, true, true, false, false, false, false, false, false, false, false, false, false, false, false, false, false, false, false, false, false, false, false, false, false] rfl rfl (uY HT_.out (by kernel_rfl)) (fun _ _ _ h => h) (Or.inr ⟨by rfl, rfl⟩) ?_ ?_
                rotate_left
                ·simp only [uc, uA, uB, uC, uZ, ua]
                 rfl
                refine ub (i := 4) (N := some 107) (v := undef) (a' := ?_) #[true, true, true, true, true, false, false, false, false, false, false, false, false, false, false, false, false, false, false, false, false, false, false, false, false, false] rfl rfl (uY HT_.out (by kernel_rfl)) (fun _ _ _ h => h) (Or.inr ⟨by rfl, rfl⟩) ?_ ?_
                rotate_left
                ·simp only [uc, uA, uB, uC, uZ, ua]
                 rfl
                refine ub (i := 5) (N := some 108) (v := undef) (a' := ?_) #[true, true, true, true, true, true, false, false, false, false, false, false, false, false, false, false, false, false, false, false, false, false, false, false, false, false] rfl rfl (uY HT_.out (by kernel_rfl)) (fun _ _ _ h => h) (Or.inr ⟨by rfl, rfl⟩) ?_ ?_
                rotate_left
                ·simp only [uc, uA, uB, uC, uZ, ua]
                 rfl
                refine ub (i := 6) (N := some 109) (v := undef) (a' := ?_) #[true, true, true, true, true, true, true, false, false, false, false, false, false, false, false, false, false, false, false, false, false, false, false, false, false, false] rfl rfl (uY HT_.out (by kernel_rfl)) (fun _ _ _ h => h) (Or.inr ⟨by rfl, rfl⟩) ?_ ?_
                rotate_left
                ·simp only [uc, uA, uB, uC, uZ, ua]
                 rfl
                refine ub (i := 7) (N := some 110) (v := undef) (a' := ?_) #[true, true, true, true, true, true, true, true, false, false, false, false, false, false, false, false, false, false, false, false, false, false, false, false, false, false] rfl rfl (uY HT_.out (by kernel_rfl)) (fun _ _ _ h => h) (Or.inr ⟨by rfl, rfl⟩) ?_ ?_
                rotate_left
                ·simp only [uc, uA, uB, uC, uZ, ua]
                 rfl
                refine ub (i := 8) (N := some 111) (v := undef) (a' := ?_) #[true, true, true, true, true, true, true, true, true, false, false, false, false, false, false, false, false, false, false, false, false, false, false, false, false, false] rfl rfl (uY HT_.out (by kernel_rfl)) (fun _ _ _ h => h) (Or.inr ⟨by rfl, rfl⟩) ?_ ?_
                rotate_left
                ·simp only [uc, uA, uB, uC, uZ, ua]
                 rfl
                refine ub (i := 9) (N := some 112) (v := undef) (a' := ?_) #[true, true, true, true, true, true, true, true, true, true, false, false, false, false, false, false, false, false, false, false, false, false, false, false, false, false] rfl rfl (uY HT_.out (by kernel_rfl)) (fun _ _ _ h => h) (Or.inr ⟨by rfl, rfl⟩) ?_ ?_
                rotate_left
                ·simp only [uc, uA, uB, uC, uZ, ua]
                 rfl
                refine ub (i := 10) (N := some 113) (v := undef) (a' := ?_) #[true, true, true, true, true, true, true, true, true, true, true, false, false, false, false, false, false, false, false, false, false, false, false, false, false, false] rfl rfl (uY HT_.out (by kernel_rfl)) (fun _ _ _ h => h) (Or.inr ⟨by rfl, rfl⟩) ?_ ?_
                rotate_left
                ·simp only [uc, uA, uB, uC, uZ, ua]
                 rfl
                refine ub (i := 11) (N := some 114) (v := undef) (a' := ?_) #[true, true, true, true, true, true, true, true, true, true, true, true, false, false, false, false, false, false, false, false, false, false, false, false, false, false] rfl rfl (uY HT_.out (by kernel_rfl)) (fun _ _ _ h => h) (Or.inr ⟨by rfl, rfl⟩) ?_ ?_
                rotate_left
                ·simp only [uc, uA, uB, uC, uZ, ua]
                 rfl
                refine ub (i := 12) (N := some 115) (v := undef) (a' := ?_) #[true, true, true, true, true, true, true, true, true, true, true, true, true, false, false, false, false, false, false, false, false, false, false, false, false, false] rfl rfl (uY HT_.out (by kernel_rfl)) (fun _ _ _ h => h) (Or.inr ⟨by rfl, rfl⟩) ?_ ?_
                rotate_left
                ·simp only [uc, uA, uB, uC, uZ, ua]
                 rfl
                refine ub (i := 13) (N := some 116) (v := undef) (a' := ?_) #[true, true, true, true, true, true, true, true, true, true, true, true, true, true, false, false, false, false, false, false, false, false, false, false, false, false] rfl rfl (uY HT_.out (by kernel_rfl)) (fun _ _ _ h => h) (Or.inr ⟨by rfl, rfl⟩) ?_ ?_
                rotate_left
                ·simp only [uc, uA, uB, uC, uZ, ua]
                 rfl
                refine ub (i := 14) (N := some 117) (v := undef) (a' := ?_) #[true, true, true, true, true, true, true, true, true, true, true, true, true, true, true, false, false, false, false, false, false, false, false, false, false, false] rfl rfl (uY HT_.out (by kernel_rfl)) (fun _ _ _ h => h) (Or.inr ⟨by rfl, rfl⟩) ?_ ?_
                rotate_left
                ·simp only [uc, uA, uB, uC, uZ, ua]
                 rfl
                refine ub (i := 15) (N := some 118) (v := undef) (a' := ?_) #[true, true, true, true, true, true, true, true, true, true, true, true, true, true, true, true, false, false, false, false, false, false, false, false, false, false] rfl rfl (uY HT_.out (by kernel_rfl)) (fun _ _ _ h => h) (Or.inr ⟨by rfl, rfl⟩) ?_ ?_
                rotate_left
                ·simp only [uc, uA, uB, uC, uZ, ua]
                 rfl
                refine ub (i := 16) (N := some 119) (v := undef) (a' := ?_) #[true, true, true, true, true, true, true, true, true, true, true, true, true, true, true, true, true, false, false, false, false, false, false, false, false, false] rfl rfl (uY HT_.out (by kernel_rfl)) (fun _ _ _ h => h) (Or.inr ⟨by rfl, rfl⟩) ?_ ?_
                rotate_left
                ·simp only [uc, uA, uB, uC, uZ, ua]
                 rfl
                refine ub (i := 17) (N := some 120) (v := undef) (a' := ?_) #[true, true, true, true, true, true, true, true, true, true, true, true, true, true, true, true, true, true, false, false, false, false, false, false, false, false] rfl rfl (uY HT_.out (by kernel_rfl)) (fun _ _ _ h => h) (Or.inr ⟨by rfl, rfl⟩) ?_ ?_
                rotate_left
                ·simp only [uc, uA, uB, uC, uZ, ua]
                 rfl
                refine ub (i := 18) (N := some 121) (v := undef) (a' := ?_) #[true, true, true, true, true, true, true, true, true, true, true, true, true, true, true, true, true, true, true, false, false, false, false, false, false, false] rfl rfl (uY HT_.out (by kernel_rfl)) (fun _ _ _ h => h) (Or.inr ⟨by rfl, rfl⟩) ?_ ?_
                rotate_left
                ·simp only [uc, uA, uB, uC, uZ, ua]
                 rfl
                refine ub (i := 19) (N := some 122) (v := undef) (a' := ?_) #[true, true, true, true, true, true, true, true, true, true, true, true, true, true, true, true, true, true, true, true, false, false, false, false, false, false] rfl rfl (uY HT_.out (by kernel_rfl)) (fun _ _ _ h => h) (Or.inr ⟨by rfl, rfl⟩) ?_ ?_
                rotate_left
                ·simp only [uc, uA, uB, uC, uZ, ua]
                 rfl
                refine ub (i := 20) (N := some 123) (v := undef) (a' := ?_) #[true, true, true, true, true, true, true, true, true, true, true, true, true, true, true, true, true, true, true, true, true, false, false, false, false, false] rfl rfl (uY HT_.out (by kernel_rfl)) (fun _ _ _ h => h) (Or.inr ⟨by rfl, rfl⟩) ?_ ?_
                rotate_left
                ·simp only [uc, uA, uB, uC, uZ, ua]
                 rfl
                refine ub (i := 21) (N := some 124) (v := undef) (a' := ?_) #[true, true, true, true, true, true, true, true, true, true, true, true, true, true, true, true, true, true, true, true, true, true, false, false, false, false] rfl rfl (uY HT_.out (by kernel_rfl)) (fun _ _ _ h => h) (Or.inr ⟨by rfl, rfl⟩) ?_ ?_
                rotate_left
                ·simp only [uc, uA, uB, uC, uZ, ua]
                 rfl
                refine ub (i := 22) (N := some 125) (v := undef) (a' := ?_) #[true, true, true, true, true, true, true, true, true, true, true, true, true, true, true, true, true, true, true, true, true, true, true, false, false, false] rfl rfl (uY HT_.out (by kernel_rfl)) (fun _ _ _ h => h) (Or.inr ⟨by rfl, rfl⟩) ?_ ?_
                rotate_left
                ·simp only [uc, uA, uB, uC, uZ, ua]
                 rfl
                refine ub (i := 23) (N := some 126) (v := undef) (a' := ?_) #[true, true, true, true, true, true, true, true, true, true, true, true, true, true, true, true, true, true, true, true, true, true, true, true, false, false] rfl rfl (uY HT_.out (by kernel_rfl)) (fun _ _ _ h => h) (Or.inr ⟨by rfl, rfl⟩) ?_ ?_
                rotate_left
                ·simp only [uc, uA, uB, uC, uZ, ua]
                 rfl
                refine ub (i := 24) (N := some 127) (v := ?_) (a' := ?_) #[true, true, true, true, true, true, true, true, true, true, true, true, true, true, true, true, true, true, true, true, true, true, true, true, true, false] rfl rfl (uY HT_.out (by kernel_rfl)) (fun _ _ _ h => h) (Or.inl ⟨by rfl, ?_⟩) ?_ ?_
                rotate_left
                ·intro w'
                 go_simp
                 with_reducible rfl
                rotate_left
                ·simp only [uc, uA, uB, uC, uZ, ua]
                 rfl
                refine ub (i := 25) (N := some 16) (v := ?_) (a' := ?_) #[true, true, true, true, true, true, true, true, true, true, true, true, true, true, true, true, true, true, true, true, true, true, true, true, true, true] rfl rfl (uY HT_.out (by kernel_rfl)) (fun _ _ _ h => h) (Or.inl ⟨by rfl, ?_⟩) ?_ ?_
                rotate_left
                ·intro w'
                 go_simp
                 with_reducible rfl
                rotate_left
                ·simp only [uc, uA, uB, uC, uZ, ua]
                 rfl
                refine done_ (done_of HT_.out (by kernel_rfl)) ?_
                try go_wp2
                go_roundg k3
                case measure => have := HJ11.out; have := HK2.out; have := HK3.out; omega
                case rel => exact ⟨(true), (wrap64 (x17_3 + 1)), (by first | rfl | (simp; done) | (simp [*]; done)), (by first | rfl | (simp; done) | (simp [*]; done)), H', ⟨by have := HJ11.out; have := HK2.out; have := HK3.out; omega⟩, ⟨by (with_reducible repeat (first | apply uU | apply uS | apply uT)); exact HO_7.out⟩, ⟨by (with_reducible repeat (first | apply uU | apply uS | apply uT)); exact HO_11.out⟩, ⟨by (with_reducible repeat (first | apply uU | apply uS | apply uT)); exact HO_331003.out⟩, ⟨by (with_reducible repeat (first | apply uU | apply uS | apply uT)); exact HO_361003.out⟩, ⟨by (with_reducible repeat (first | refine uH ?_ _ | refine uJ ?_ | refine uG ?_ _)); exact BK330.out⟩, ⟨by (with_reducible repeat (first | refine uH ?_ _ | refine uJ ?_ | refine uG ?_ _)); exact BK360.out⟩, ⟨by repeat (first | (with_reducible first | exact HB.out | apply uL | apply uE | apply uK | refine uM ?_ GE330.out | refine uM ?_ GE360.out) | exact HB.out)⟩⟩
               ·replace c50 := Bool.eq_false_iff.mpr c50
                subst c50
                have H1 : (if 0 ≤ x17_3 then (if 0 ≤ x13_2 then (if x13_2 < (t336.length : Int) then (if ((rd_T74 t354 x17_3).f0) = ((rd_T47 t336 x13_2).f0) then (laws_FnWindows.l1 k3 (wrap64 (1 + (Int.tmod (rd t331 0) t324))) (Int.tmod (rd t331 1) 1000) t336 t344 x13_2 (((rd_T74 t354 x17_3).f1) == (wrap64 (1 + (Int.tmod (rd t331 0) t324)))) (wrap64 (x17_3 + 1)) t324 t325 false t327 t351 t352 t353 t354) else (laws_FnWindows.l1 k3 (wrap64 (1 + (Int.tmod (rd t331 0) t324))) (Int.tmod (rd t331 1) 1000) t336 t344 x13_2 false (wrap64 (x17_3 + 1)) t324 t325 false t327 t351 t352 t353 t354)) else (none)) else (none)) else (none)) = some true := by rw [if_neg (show ¬ (false = true) by decide)] at H; first | done | exact H
                clear H
                have H := H1
                clear H1
                by_cases c54 : 0 ≤ x17_3
                ·rw [if_pos c54] at H
                 have c54b0 : decide (0 ≤ x17_3) = true := decide_eq_true c54
                 clear c54
                 by_cases c55 : 0 ≤ x13_2
                 ·rw [if_pos c55] at H
                  have c55b0 : decide (0 ≤ x13_2) = true := decide_eq_true c55
                  clear c55
                  by_cases c56 : x13_2 < (t336.length : Int)
                  ·rw [if_pos c56] at H
                   have c56b0 : decide (x13_2 < (t336.length : Int)) = true := decide_eq_true c56
                   clear c56
                   by_cases c57 : ((rd_T74 t354 x17_3).f0) = ((rd_T47 t336 x13_2).f0)
                   ·rw [if_pos c57] at H
                    have c57b0 : (((rd_T74 t354 x17_3).f0) == ((rd_T47 t336 x13_2).f0)) = true := beq_iff_eq.mpr c57
                    have c57b1 : (((rd_T74 t354 x17_3).f0) != ((rd_T47 t336 x13_2).f0)) = false := bne_eq_false_iff_eq.mpr c57
                    clear c57
                    have H' := uD H
                    clear H
                    have hnb58 := NB360_330.out
                    have hnc58 := NB330_360.out
                    have hcz59_0 : wr.cell? ⟨gb360, 0, none⟩ = some (.int .i64 t351) := (uF BK360.out 0).trans rfl
                    have hcz59_1 : wr.cell? ⟨gb360, 1, none⟩ = some (.int .i64 t352) := (uF BK360.out 1).trans rfl
                    have hcz59_2 : wr.cell? ⟨gb360, 2, none⟩ = some (.bool t353) := (uF BK360.out 2).trans rfl
                    have hcz59_3 : wr.cell? ⟨gb360, 3, none⟩ = some (.slice Ao47 t354.length co47) := (uF BK360.out 3).trans rfl
                    have hfz59_0 := uI BK360.out 0
                    have hfz59_1 := uI BK360.out 1
                    have hfz59_2 := uI BK360.out 2
                    have hfz59_3 := uI BK360.out 3
                    try go_wp2
                    have n0_ := uD (uT HO_7.out)
                    have n1_ := uD (uT HO_11.out)
                    have n2_ := uD (uT HO_331003.out)
                    have n3_ := uD (uT HO_361003.out)
                    have n4_ := uD (uJ BK330.out)
                    have n5_ := uD (uJ BK360.out)
                    have n6_ := uD (uK HB.out)
                    clear HO_7
                    clear HO_11
                    clear HO_331003
                    clear HO_361003
                    clear BK330
                    clear BK360
                    clear HB
                    have HO_7 := n0_
                    have HO_11 := n1_
                    have HO_331003 := n2_
                    have HO_361003 := n3_
                    have BK330 := n4_
                    have BK360 := n5_
                    have HB := n6_
                    clear n0_ n1_ n2_ n3_ n4_ n5_ n6_
                    have p361 : 0 ≤ (x17_3 : Int) := of_decide_eq_true (by first | (with_reducible assumption) | assumption)
                    have q361 : x17_3 < (t354.length : Int) := of_decide_eq_true (by first | (with_reducible assumption) | assumption)
                    obtain ⟨ad361, e361, hx361_0, hx361_1, hx361_2⟩ := at_T74 (Kd.R_reads' HO_361003.out).2.2 x17_3 p361 q361
                    cases e361
                    replace p361 := eq_true p361
                    replace q361 := eq_true q361
                    have p362 : 0 ≤ (x13_2 : Int) := of_decide_eq_true (by first | (with_reducible assumption) | assumption)
                    have q362 : x13_2 < (t336.length : Int) := of_decide_eq_true (by first | (with_reducible assumption) | assumption)
                    obtain ⟨ad362, e362, hx362_0, hx362_1, hx362_2⟩ := at_T47 (Kd.R_reads' HO_7.out).2.2 x13_2 p362 q362
                    obtain rfl : ad350 = ad362 := (by injection e362)
                    replace p362 := eq_true p362
                    replace q362 := eq_true q362
                    have p363 : 0 ≤ (x17_3 : Int) := of_decide_eq_true (by first | (with_reducible assumption) | assumption)
                    have q363 : x17_3 < (t354.length : Int) := of_decide_eq_true (by first | (with_reducible assumption) | assumption)
                    obtain ⟨ad363, e363, hx363_0, hx363_1, hx363_2⟩ := at_T74 (Kd.R_reads' HO_361003.out).2.2 x17_3 p363 q363
                    obtain rfl : ad361 = ad363 := (by injection e363)
                    replace p363 := eq_true p363
                    replace q363 := eq_true q363
                    refine start_ (n := 26) (S := fun w' => w'.cell? ⟨gb360, 0, none⟩ = some (.int .i64 t351) ∧ w'.cell? ⟨gb360, 1, none⟩ = some (.int .i64 t352) ∧ w'.cell? ⟨gb360, 2, none⟩ = some (.bool t353) ∧ w'.cell? ⟨gb360, 3, none⟩ = some (.slice (some ad361) t354.length co47) ∧ w'.cell? (ad361.add ((x17_3).toNat * 3)) = some (.int .i64 ((rd_T74 t354 x17_3).f0)) ∧ w'.cell? ⟨(ad361.add ((x17_3).toNat * 3)).block, (ad361.add ((x17_3).toNat * 3)).off + 1, none⟩ = some (.int .i64 ((rd_T74 t354 x17_3).f1)) ∧ w'.cell? ⟨(ad361.add ((x17_3).toNat * 3)).block, (ad361.add ((x17_3).toNat * 3)).off + 2, none⟩ = some (.int .i64 ((rd_T74 t354 x17_3).f2)) ∧ w'.cell? (ad350.add ((x13_2).toNat * 3)) = some (.int .i64 ((rd_T47 t336 x13_2).f0)) ∧ w'.cell? ⟨(ad350.add ((x13_2).toNat * 3)).block, (ad350.add ((x13_2).toNat * 3)).off + 1, none⟩ = some (.int .i64 ((rd_T47 t336 x13_2).f1)) ∧ w'.cell? ⟨(ad350.add ((x13_2).toNat * 3)).block, (ad350.add ((x13_2).toNat * 3)).off + 2, none⟩ = some (.int .i64 ((rd_T47 t336 x13_2).f2)) ∧ w'.cell? (ad361.add ((x17_3).toNat * 3)) = some (.int .i64 ((rd_T74 t354 x17_3).f0)) ∧ w'.cell? ⟨(ad361.add ((x17_3).toNat * 3)).block, (ad361.add ((x17_3).toNat * 3)).off + 1, none⟩ = some (.int .i64 ((rd_T74 t354 x17_3).f1)) ∧ w'.cell? ⟨(ad361.add ((x17_3).toNat * 3)).block, (ad361.add ((x17_3).toNat * 3)).off + 2, none⟩ = some (.int .i64 ((rd_T74 t354 x17_3).f2))) (ds := []) #[false, false, false, false, false, false, false, false, false, false, false, false, false, false, false, false, false, false, false, false, false, false, false, false, false, false] (by kernel_rfl) rfl rfl ⟨(uF BK360.out 0).trans rfl, (uF BK360.out 1).trans rfl, (uF BK360.out 2).trans rfl, (uF BK360.out 3).trans rfl, hx361_0, hx361_1, hx361_2, hx362_0, hx362_1, hx362_2, hx363_0, hx363_1, hx363_2⟩ (fun hHeld => ?_); refine with_tabW laws_FnWindows.tab21 laws_FnWindows.bits21 (fun HT_ HW_ => ?_)
                    generalize wr.drew = w60 at HO_7 HO_11 HO_331003 HO_361003 BK330 BK360 HB hx361_0 hx361_1 hx361_2 hx362_0 hx362_1 hx362_2 hx363_0 hx363_1 hx363_2 hHeld ⊢
                    refine ub (i := 0) (N := some 103) (v := ?_) (a' := ?_) #[true, false, false, false, false, false, false, false, false, false, false, false, false, false, false, false, false, false, false, false, false, false, false, false, false, false] rfl rfl (uY HT_.out (by kernel_rfl)) (fun _ _ _ h => h) (Or.inl ⟨by rfl, ?_⟩) ?_ ?_
                    rotate_left
                    ·intro w'
                     go_simp
                     with_reducible rfl
                    rotate_left
                    ·simp only [uc, uA, uB, uC, uZ, ua]
                     rfl
                    refine ub (i := 1) (N := some 104) (v := ?_) (a' := ?_) #[true, true, false, false, false, false, false, false, false, false, false, false, false, false, false, false, false, false, false, false, false, false, false, false, false, false] rfl rfl (uY HT_.out (by kernel_rfl)) (fun _ _ _ h => h) (Or.inl ⟨by rfl, ?_⟩) ?_ ?_
                    rotate_left
                    ·intro w'
                     go_simp
                     with_reducible rfl
                    rotate_left
                    ·simp only [uc, uA, uB, uC, uZ, ua]
                     rfl
                    refine ub (i := 2) (N := some 105) (v := ?_) (a' := ?_) #[true, true, true, false, false, false, false, false, false, false, false, false, false, false, false, false, false, false, false, false, false, false, false, false, false, false] rfl rfl (uY HT_.out (by kernel_rfl)) (fun _ _ _ h => h) (Or.inl ⟨by rfl, ?_⟩) ?_ ?_
                    rotate_left
                    ·intro w'
                     go_simp
                     with_reducible rfl
                    rotate_left
                    ·simp only [uc, uA, uB, uC, uZ, ua]
                     rfl
                    refine ub (i := 4) (N := some 107) (v := ?_) (a' := ?_) #[true, true, true, false, true, false, false, false, false, false, false, false, false, false, false, false, false, false, false, false, false, false, false, false, false, false] rfl rfl (uY HT_.out (by kernel_rfl)) (fun _ _ _ h => h) (Or.inl ⟨by rfl, ?_⟩) ?_ ?_
                    rotate_left
                    ·intro w'
                     go_simp
                     with_reducible rfl
                    rotate_left
                    ·simp only [uc, uA, uB, uC, uZ, ua]
                     rfl
                    refine ub (i := 8) (N := some 111) (v := ?_) (a' := ?_) #[true, true, true, false, true, false, false, false, true, false, false, false, false, false, false, false, false, false, false, false, false, false, false, false, false, false] rfl rfl (uY HT_.out (by kernel_rfl)) (fun _ _ _ h => h) (Or.inl ⟨by rfl, ?_⟩) ?_ ?_
                    rotate_left
                    ·intro w'
                     go_simp
                     with_reducible rfl
                    rotate_left
                    ·simp only [uc, uA, uB, uC, uZ, ua]
                     rfl
                    refine ub (i := 9) (N := some 112) (v := ?_) (a' := ?_) #[true, true, true, false, true, false, false, false, true, true, false, false, false, false, false, false, false, false, false, false, false, false, false, false, false, false] rfl rfl (uY HT_.out (by kernel_rfl)) (fun _ _ _ h => h) (Or.inl ⟨by rfl, ?_⟩) ?_ ?_
                    rotate_left
                    ·intro w'
                     go_simp
                     with_reducible rfl
                    rotate_left
                    ·simp only [uc, uA, uB, uC, uZ, ua]
                     rfl
                    refine ub (i := 10) (N := some 113) (v := ?_) (a' := ?_) #[true, true, true, false, true, false, false, false, true, true, true, false, false, false, false, false, false, false, false, false, false, false, false, false, false, false] rfl rfl (uY HT_.out (by kernel_rfl)) (fun _ _ _ h => h) (Or.inl ⟨by rfl, ?_⟩) ?_ ?_
                    rotate_left
                    ·intro w'
                     go_simp
                     with_reducible rfl
                    rotate_left
                    ·simp only [uc, uA, uB, uC, uZ, ua]
                     rfl
                    refine ub (i := 11) (N := some 114) (v := ?_) (a' := ?_) #[true, true, true, false, true, false, false, false, true, true, true, true, false, false, false, false, false, false, false, false, false, false, false, false, false, false] rfl rfl (uY HT_.out (by kernel_rfl)) (fun _ _ _ h => h) (Or.inl ⟨by rfl, ?_⟩) ?_ ?_
                    rotate_left
                    ·intro w'
                     go_simp
                     with_reducible rfl
                    rotate_left
                    ·simp only [uc, uA, uB, uC, uZ, ua]
                     rfl
                    refine take_ (i := 3) (N := some 106) (v := ?_) (a' := ?_) #[true, true, true, true, true, false, false, false, true, true, true, true, false, false, false, false, false, false, false, false, false, false, false, false, false, false] rfl rfl (take_ofW HT_.out HW_.out (by kernel_rfl)) (fun _ _ _ h => h) (Or.inl ⟨by rfl, ?_⟩) hHeld ?_ ?_
                    rotate_left
                    ·rintro w' ⟨s0, s1, s2, s3, s4, s5, s6, s7, s8, s9, s10, s11, s12⟩
                     go_simp
                     with_reducible rfl
                    rotate_left
                    ·simp only [uc, uA, uB, uC, uZ, ua]
                     rfl
                    refine ub (i := 5) (N := some 108) (v := ?_) (a' := ?_) #[true, true, true, true, true, true, false, false, true, true, true, true, false, false, false, false, false, false, false, false, false, false, false, false, false, false] rfl rfl (uY HT_.out (by kernel_rfl)) (fun _ _ _ h => h) (Or.inl ⟨by rfl, ?_⟩) ?_ ?_
                    rotate_left
                    ·intro w'
                     go_simp
                     with_reducible rfl
                    rotate_left
                    ·simp only [uc, uA, uB, uC, uZ, ua]
                     rfl
                    refine ub (i := 6) (N := some 109) (v := ?_) (a' := ?_) #[true, true, true, true, true, true, true, false, true, true, true, true, false, false, false, false, false, false, false, false, false, false, false, false, false, false] rfl rfl (uY HT_.out (by kernel_rfl)) (fun _ _ _ h => h) (Or.inl ⟨by rfl, ?_⟩) ?_ ?_
                    rotate_left
                    ·intro w'
                     go_simp
                     with_reducible rfl
                    rotate_left
                    ·simp only [uc, uA, uB, uC, uZ, ua]
                     rfl
                    refine take_ (i := 7) (N := some 110) (v := ?_) (a' := ?_) #[true, true, true, true, true, true, true, true, true, true, true, true, false, false, false, false, false, false, false, false, false, false, false, false, false, false] rfl rfl (take_ofW HT_.out HW_.out (by kernel_rfl)) (fun _ _ _ h => h) (Or.inl ⟨by rfl, ?_⟩) hHeld ?_ ?_
                    rotate_left
                    ·rintro w' ⟨s0, s1, s2, s3, s4, s5, s6, s7, s8, s9, s10, s11, s12⟩
                     go_simp
                     with_reducible rfl
                    rotate_left
                    ·simp only [uc, uA, uB, uC, uZ, ua]
                     rfl
                    refine take_ (i := 12) (N := some 115) (v := ?_) (a' := ?_) #[true, true, true, true, true, true, true, true, true, true, true, true, true, false, false, false, false, false, false, false, false, false, false, false, false, false] rfl rfl (take_ofW HT_.out HW_.out (by kernel_rfl)) (fun _ _ _ h => h) (Or.inl ⟨by rfl, ?_⟩) hHeld ?_ ?_
                    rotate_left
                    ·rintro w' ⟨s0, s1, s2, s3, s4, s5, s6, s7, s8, s9, s10, s11, s12⟩
                     go_simp
                     with_reducible rfl
                    rotate_left
                    ·simp only [uc, uA, uB, uC, uZ, ua]
                     rfl
                    refine ub (i := 13) (N := some 116) (v := ?_) (a' := ?_) #[true, true, true, true, true, true, true, true, true, true, true, true, true, true, false, false, false, false, false, false, false, false, false, false, false, false] rfl rfl (uY HT_.out (by kernel_rfl)) (fun _ _ _ h => h) (Or.inl ⟨by rfl, ?_⟩) ?_ ?_
                    rotate_left
                    ·intro w'
                     go_simp
                     with_reducible rfl
                    rotate_left
                    ·simp only [uc, uA, uB, uC, uZ, ua]
                     rfl
                    refine ub (i := 14) (N := some 117) (v := ?_) (a' := ?_) #[true, true, true, true, true, true, true, true, true, true, true, true, true, true, true, false, false, false, false, false, false, false, false, false, false, false] rfl rfl (uY HT_.out (by kernel_rfl)) (fun _ _ _ h => h) (Or.inl ⟨by rfl, ?_⟩) ?_ ?_
                    rotate_left
                    ·intro w'
                     go_simp
                     with_reducible rfl
                    rotate_left
                    ·simp only [uc, uA, uB, uC, uZ, ua]
                     rfl
                    refine ub (i := 15) (N := some 118) (v := ?_) (a' := ?_) #[true, true, true, true, true, true, true, true, true, true, true, true, true, true, true, true, false, false, false, false, false, false, false, false, false, false] rfl rfl (uY HT_.out (by kernel_rfl)) (fun _ _ _ h => h) (Or.inl ⟨by rfl, ?_⟩) ?_ ?_
                    rotate_left
                    ·intro w'
                     go_simp
                     with_reducible rfl
                    rotate_left
                    ·simp only [uc, uA, uB, uC, uZ, ua]
                     rfl
                    refine ub (i := 17) (N := some 120) (v := ?_) (a' := ?_) #[true, true, true, true, true, true, true, true, true, true, true, true, true, true, true, true, false, true, false, false, false, false, false, false, false, false] rfl rfl (uY HT_.out (by kernel_rfl)) (fun _ _ _ h => h) (Or.inl ⟨by rfl, ?_⟩) ?_ ?_
                    rotate_left
                    ·intro w'
                     go_simp
                     with_reducible rfl
                    rotate_left
                    ·simp only [uc, uA, uB, uC, uZ, ua]
                     rfl
                    refine ub (i := 21) (N := some 124) (v := ?_) (a' := ?_) #[true, true, true, true, true, true, true, true, true, true, true, true, true, true, true, true, false, true, false, false, false, true, false, false, false, false] rfl rfl (uY HT_.out (by kernel_rfl)) (fun _ _ _ h => h) (Or.inl ⟨by rfl, ?_⟩) ?_ ?_
                    rotate_left
                    ·intro w'
                     go_simp
                     with_reducible rfl
                    rotate_left
                    ·simp only [uc, uA, uB, uC, uZ, ua]
                     rfl
                    refine take_ (i := 16) (N := some 119) (v := ?_) (a' := ?_) #[true, true, true, true, true, true, true, true, true, true, true, true, true, true, true, true, true, true, false, false, false, true, false, false, false, false] rfl rfl (take_ofW HT_.out HW_.out (by kernel_rfl)) (fun _ _ _ h => h) (Or.inl ⟨by rfl, ?_⟩) hHeld ?_ ?_
                    rotate_left
                    ·rintro w' ⟨s0, s1, s2, s3, s4, s5, s6, s7, s8, s9, s10, s11, s12⟩
                     go_simp
                     with_reducible rfl
                    rotate_left
                    ·simp only [uc, uA, uB, uC, uZ, ua]
                     rfl
                    refine ub (i := 18) (N := some 121) (v := ?_) (a' := ?_) #[true, true, true, true, true, true, true, true, true, true, true, true, true, true, true, true, true, true, true, false, false, true, false, false, false, false] rfl rfl (uY HT_.out (by kernel_rfl)) (fun _ _ _ h => h) (Or.inl ⟨by rfl, ?_⟩) ?_ ?_
                    rotate_left
                    ·intro w'
                     go_simp
                     with_reducible rfl
                    rotate_left
                    ·simp only [uc, uA, uB, uC, uZ, ua]
                     rfl
                    refine ub (i := 19) (N := some 122) (v := ?_) (a' := ?_) #[true, true, true, true, true, true, true, true, true, true, true, true, true, true, true, true, true, true, true, true, false, true, false, false, false, false] rfl rfl (uY HT_.out (by kernel_rfl)) (fun _ _ _ h => h) (Or.inl ⟨by rfl, ?_⟩) ?_ ?_
                    rotate_left
                    ·intro w'
                     go_simp
                     with_reducible rfl
                    rotate_left
                    ·simp only [uc, uA, uB, uC, uZ, ua]
                     rfl
                    refine take_ (i := 20) (N := some 123) (v := ?_) (a' := ?_) #[true, true, true, true, true, true, true, true, true, true, true, true, true, true, true, true, true, true, true, true, true, true, false, false, false, false] rfl rfl (take_ofW HT_.out HW_.out (by kernel_rfl)) (fun _ _ _ h => h) (Or.inl ⟨by rfl, ?_⟩) hHeld ?_ ?_
                    rotate_left
                    ·rintro w' ⟨s0, s1, s2, s3, s4, s5, s6, s7, s8, s9, s10, s11, s12⟩
                     go_simp
                     with_reducible rfl
                    rotate_left
                    ·simp only [uc, uA, uB, uC, uZ, ua]
                     rfl
                    refine ub (i := 22) (N := some 125) (v := ?_) (a' := ?_) #[true, true, true, true, true, true, true, true, true, true, true, true, true, true, true, true, true, true, true, true, true, true, true, false, false, false] rfl rfl (uY HT_.out (by kernel_rfl)) (fun _ _ _ h => h) (Or.inl ⟨by rfl, ?_⟩) ?_ ?_
                    rotate_left
                    ·intro w'
                     go_simp
                     with_reducible rfl
                    rotate_left
                    ·simp only [uc, uA, uB, uC, uZ, ua]
                     rfl
                    refine ub (i := 23) (N := some 126) (v := ?_) (a' := ?_) #[true, true, true, true, true, true, true, true, true, true, true, true, true, true, true, true, true, true, true, true, true, true, true, true, false, false] rfl rfl (uY HT_.out (by kernel_rfl)) (fun _ _ _ h => h) (Or.inl ⟨by rfl, ?_⟩) ?_ ?_
                    rotate_left
                    ·intro w'
                     go_simp
                     with_reducible rfl
                    rotate_left
                    ·simp only [uc, uA, uB, uC, uZ, ua]
                     rfl
                    refine ub (i := 24) (N := some 127) (v := ?_) (a' := ?_) #[true, true, true, true, true, true, true, true, true, true, true, true, true, true, true, true, true, true, true, true, true, true, true, true, true, false] rfl rfl (uY HT_.out (by kernel_rfl)) (fun _ _ _ h => h) (Or.inl ⟨by rfl, ?_⟩) ?_ ?_
                    rotate_left
                    ·intro w'
                     go_simp
                     with_reducible rfl
                    rotate_left
                    ·simp only [uc, uA, uB, uC, uZ, ua]
                     rfl
                    refine ub (i := 25) (N := some 16) (v := ?_) (a' := ?_) #[true, true, true, true, true, true, true, true, true, true, true, true, true, true, true, true, true, true, true, true, true, true, true, true, true, true] rfl rfl (uY HT_.out (by kernel_rfl)) (fun _ _ _ h => h) (Or.inl ⟨by rfl, ?_⟩) ?_ ?_
                    rotate_left
                    ·intro w'
                     go_simp
                     with_reducible rfl
                    rotate_left
                    ·simp only [uc, uA, uB, uC, uZ, ua]
                     rfl
                    refine done_ (done_of HT_.out (by kernel_rfl)) ?_
                    try go_wp2
                    go_roundg k3
                    case measure => have := HJ11.out; have := HK2.out; have := HK3.out; omega
                    case rel => exact ⟨((((rd_T74 t354 x17_3).f1) == (wrap64 (1 + (Int.tmod (rd t331 0) t324))))), (wrap64 (x17_3 + 1)), (by first | rfl | (simp; done) | (simp [*]; done)), (by first | rfl | (simp; done) | (simp [*]; done)), H', ⟨by have := HJ11.out; have := HK2.out; have := HK3.out; omega⟩, ⟨by (with_reducible repeat (first | apply uU | apply uS | apply uT)); exact HO_7.out⟩, ⟨by (with_reducible repeat (first | apply uU | apply uS | apply uT)); exact HO_11.out⟩, ⟨by (with_reducible repeat (first | apply uU | apply uS | apply uT)); exact HO_331003.out⟩, ⟨by (with_reducible repeat (first | apply uU | apply uS | apply uT)); exact HO_361003.out⟩, ⟨by (with_reducible repeat (first | refine uH ?_ _ | refine uJ ?_ | refine uG ?_ _)); exact BK330.out⟩, ⟨by (with_reducible repeat (first | refine uH ?_ _ | refine uJ ?_ | refine uG ?_ _)); exact BK360.out⟩, ⟨by repeat (first | (with_reducible first | exact HB.out | apply uL | apply uE | apply uK | refine uM ?_ GE330.out | refine uM ?_ GE360.out) | exact HB.out)⟩⟩
                   ·rw [if_neg c57] at H
                    have c57b0 : (((rd_T74 t354 x17_3).f0) == ((rd_T47 t336 x13_2).f0)) = false := beq_eq_false_iff_ne.mpr c57
                    have c57b1 : (((rd_T74 t354 x17_3).f0) != ((rd_T47 t336 x13_2).f0)) = true := bne_iff_ne.mpr c57
                    have H' := uD H
                    clear H
                    have hnb61 := NB360_330.out
                    have hnc61 := NB330_360.out
                    have hcz62_0 : wr.cell? ⟨gb360, 0, none⟩ = some (.int .i64 t351) := (uF BK360.out 0).trans rfl
                    have hcz62_1 : wr.cell? ⟨gb360, 1, none⟩ = some (.int .i64 t352) := (uF BK360.out 1).trans rfl
                    have hcz62_2 : wr.cell? ⟨gb360, 2, none⟩ = some (.bool t353) := (uF BK360.out 2).trans rfl
                    have hcz62_3 : wr.cell? ⟨gb360, 3, none⟩ = some (.slice Ao47 t354.length co47) := (uF BK360.out 3).trans rfl
                    have hfz62_0 := uI BK360.out 0
                    have hfz62_1 := uI BK360.out 1
                    have hfz62_2 := uI BK360.out 2
                    have hfz62_3 := uI BK360.out 3
                    try go_wp2
                    have n0_ := uD (uT HO_7.out)
                    have n1_ := uD (uT HO_11.out)
                    have n2_ := uD (uT HO_331003.out)
                    have n3_ := uD (uT HO_361003.out)
                    have n4_ := uD (uJ BK330.out)
                    have n5_ := uD (uJ BK360.out)
                    have n6_ := uD (uK HB.out)
                    clear HO_7
                    clear HO_11
                    clear HO_331003
                    clear HO_361003
                    clear BK330
                    clear BK360
                    clear HB
                    have HO_7 := n0_
                    have HO_11 := n1_
                    have HO_331003 := n2_
                    have HO_361003 := n3_
                    have BK330 := n4_
                    have BK360 := n5_
                    have HB := n6_
                    clear n0_ n1_ n2_ n3_ n4_ n5_ n6_
                    have p361 : 0 ≤ (x17_3 : Int) := of_decide_eq_true (by first | (with_reducible assumption) | assumption)
                    have q361 : x17_3 < (t354.length : Int) := of_decide_eq_true (by first | (with_reducible assumption) | assumption)
                    obtain ⟨ad361, e361, hx361_0, hx361_1, hx361_2⟩ := at_T74 (Kd.R_reads' HO_361003.out).2.2 x17_3 p361 q361
                    cases e361
                    replace p361 := eq_true p361
                    replace q361 := eq_true q361
                    have p362 : 0 ≤ (x13_2 : Int) := of_decide_eq_true (by first | (with_reducible assumption) | assumption)
                    have q362 : x13_2 < (t336.length : Int) := of_decide_eq_true (by first | (with_reducible assumption) | assumption)
                    obtain ⟨ad362, e362, hx362_0, hx362_1, hx362_2⟩ := at_T47 (Kd.R_reads' HO_7.out).2.2 x13_2 p362 q362
                    obtain rfl : ad350 = ad362 := (by injection e362)
                    replace p362 := eq_true p362
                    replace q362 := eq_true q362
                    refine start_ (n := 26) (S := fun w' => w'.cell? ⟨gb360, 0, none⟩ = some (.int .i64 t351) ∧ w'.cell? ⟨gb360, 1, none⟩ = some (.int .i64 t352) ∧ w'.cell? ⟨gb360, 2, none⟩ = some (.bool t353) ∧ w'.cell? ⟨gb360, 3, none⟩ = some (.slice (some ad361) t354.length co47) ∧ w'.cell? (ad361.add ((x17_3).toNat * 3)) = some (.int .i64 ((rd_T74 t354 x17_3).f0)) ∧ w'.cell? ⟨(ad361.add ((x17_3).toNat * 3)).block, (ad361.add ((x17_3).toNat * 3)).off + 1, none⟩ = some (.int .i64 ((rd_T74 t354 x17_3).f1)) ∧ w'.cell? ⟨(ad361.add ((x17_3).toNat * 3)).block, (ad361.add ((x17_3).toNat * 3)).off + 2, none⟩ = some (.int .i64 ((rd_T74 t354 x17_3).f2)) ∧ w'.cell? (ad350.add ((x13_2).toNat * 3)) = some (.int .i64 ((rd_T47 t336 x13_2).f0)) ∧ w'.cell? ⟨(ad350.add ((x13_2).toNat * 3)).block, (ad350.add ((x13_2).toNat * 3)).off + 1, none⟩ = some (.int .i64 ((rd_T47 t336 x13_2).f1)) ∧ w'.cell? ⟨(ad350.add ((x13_2).toNat * 3)).block, (ad350.add ((x13_2).toNat * 3)).off + 2, none⟩ = some (.int .i64 ((rd_T47 t336 x13_2).f2))) (ds := []) #[false, false, false, false, false, false, false, false, false, false, false, false, false, false, false, false, false, false, false, false, false, false, false, false, false, false] (by kernel_rfl) rfl rfl ⟨(uF BK360.out 0).trans rfl, (uF BK360.out 1).trans rfl, (uF BK360.out 2).trans rfl, (uF BK360.out 3).trans rfl, hx361_0, hx361_1, hx361_2, hx362_0, hx362_1, hx362_2⟩ (fun hHeld => ?_); refine with_tabW laws_FnWindows.tab21 laws_FnWindows.bits21 (fun HT_ HW_ => ?_)
                    generalize wr.drew = w63 at HO_7 HO_11 HO_331003 HO_361003 BK330 BK360 HB hx361_0 hx361_1 hx361_2 hx362_0 hx362_1 hx362_2 hHeld ⊢
                    refine ub (i := 0) (N := some 103) (v := ?_) (a' := ?_) #[true, false, false, false, false, false, false, false, false, false, false, false, false, false, false, false, false, false, false, false, false, false, false, false, false, false] rfl rfl (uY HT_.out (by kernel_rfl)) (fun _ _ _ h => h) (Or.inl ⟨by rfl, ?_⟩) ?_ ?_
                    rotate_left
                    ·intro w'
                     go_simp
                     with_reducible rfl
                    rotate_left
                    ·simp only [uc, uA, uB, uC, uZ, ua]
                     rfl
                    refine ub (i := 1) (N := some 104) (v := ?_) (a' := ?_) #[true, true, false, false, false, false, false, false, false, false, false, false, false, false, false, false, false, false, false, false, false, false, false, false, false, false] rfl rfl (uY HT_.out (by kernel_rfl)) (fun _ _ _ h => h) (Or.inl ⟨by rfl, ?_⟩) ?_ ?_
                    rotate_left
                    ·intro w'
                     go_simp
                     with_reducible rfl
                    rotate_left
                    ·simp only [uc, uA, uB, uC, uZ, ua]
                     rfl
                    refine ub (i := 2) (N := some 105) (v := ?_) (a' := ?_) #[true, true, true, false, false, false, false, false, false, false, false, false, false, false, false, false, false, false, false, false, false, false, false, false, false, false] rfl rfl (uY HT_.out (by kernel_rfl)) (fun _ _ _ h => h) (Or.inl ⟨by rfl, ?_⟩) ?_ ?_
                    rotate_left
                    ·intro w'
                     go_simp
                     with_reducible rfl
                    rotate_left
                    ·simp only [uc, uA, uB, uC, uZ, ua]
                     rfl
                    refine ub (i := 4) (N := some 107) (v := ?_) (a' := ?_) #[true, true, true, false, true, false, false, false, false, false, false, false, false, false, false, false, false, false, false, false, false, false, false, false, false, false] rfl rfl (uY HT_.out (by kernel_rfl)) (fun _ _ _ h => h) (Or.inl ⟨by rfl, ?_⟩) ?_ ?_
                    rotate_left
                    ·intro w'
                     go_simp
                     with_reducible rfl
                    rotate_left
                    ·simp only [uc, uA, uB, uC, uZ, ua]
                     rfl
                    refine ub (i := 8) (N := some 111) (v := ?_) (a' := ?_) #[true, true, true, false, true, false, false, false, true, false, false, false, false, false, false, false, false, false, false, false, false, false, false, false, false, false] rfl rfl (uY HT_.out (by kernel_rfl)) (fun _ _ _ h => h) (Or.inl ⟨by rfl, ?_⟩) ?_ ?_
                    rotate_left
                    ·intro w'
                     go_simp
                     with_reducible rfl
                    rotate_left
                    ·simp only [uc, uA, uB, uC, uZ, ua]
                     rfl
                    refine ub (i := 9) (N := some 112) (v := ?_) (a' := ?_) #[true, true, true, false, true, false, false, false, true, true, false, false, false, false, false, false, false, false, false, false, false, false, false, false, false, false] rfl rfl (uY HT_.out (by kernel_rfl)) (fun _ _ _ h => h) (Or.inl ⟨by rfl, ?_⟩) ?_ ?_
                    rotate_left
                    ·intro w'
                     go_simp
                     with_reducible rfl
                    rotate_left
                    ·simp only [uc, uA, uB, uC, uZ, ua]
                     rfl
                    refine ub (i := 10) (N := some 113) (v := ?_) (a' := ?_) #[true, true, true, false, true, false, false, false, true, true, true, false, false, false, false, false, false, false, false, false, false, false, false, false, false, false] rfl rfl (uY HT_.out (by kernel_rfl)) (fun _ _ _ h => h) (Or.inl ⟨by rfl, ?_⟩) ?_ ?_
                    rotate_left
                    ·intro w'
                     go_simp
                     with_reducible rfl
                    rotate_left
                    ·simp only [uc, uA, uB, uC, uZ, ua]
                     rfl
                    refine ub (i := 11) (N := some 114) (v := ?_) (a' := ?_) #[true, true, true, false, true, false, false, false, true, true, true, true, false, false, false, false, false, false, false, false, false, false, false, false, false, false] rfl rfl (uY HT_.out (by kernel_rfl)) (fun _ _ _ h => h) (Or.inl ⟨by rfl, ?_⟩) ?_ ?_
                    rotate_left
                    ·intro w'
                     go_simp
                     with_reducible rfl
                    rotate_left
                    ·simp only [uc, uA, uB, uC, uZ, ua]
                     rfl
                    refine take_ (i := 3) (N := some 106) (v := ?_) (a' := ?_) #[true, true, true, true, true, false, false, false, true, true, true, true, false, false, false, false, false, false, false, false, false, false, false, false, false, false] rfl rfl (take_ofW HT_.out HW_.out (by kernel_rfl)) (fun _ _ _ h => h) (Or.inl ⟨by rfl, ?_⟩) hHeld ?_ ?_
                    rotate_left
                    ·rintro w' ⟨s0, s1, s2, s3, s4, s5, s6, s7, s8, s9⟩
                     go_simp
                     with_reducible rfl
                    rotate_left
                    ·simp only [uc, uA, uB, uC, uZ, ua]
                     rfl
                    refine ub (i := 5) (N := some 108) (v := ?_) (a' := ?_) #[true, true, true, true, true, true, false, false, true, true, true, true, false, false, false, false, false, false, false, false, false, false, false, false, false, false] rfl rfl (uY HT_.out (by kernel_rfl)) (fun _ _ _ h => h) (Or.inl ⟨by rfl, ?_⟩) ?_ ?_
                    rotate_left
                    ·intro w'
                     go_simp
                     with_reducible rfl
                    rotate_left
                    ·simp only [uc, uA, uB, uC, uZ, ua]
                     rfl
                    refine ub (i := 6) (N := some 109) (v := ?_) (a' := ?_) #[true, true, true, true, true, true, true, false, true, true, true, true, false, false, false, false, false, false, false, false, false, false, false, false, false, false] rfl rfl (uY HT_.out (by kernel_rfl)) (fun _ _ _ h => h) (Or.inl ⟨by rfl, ?_⟩) ?_ ?_
                    rotate_left
                    ·intro w'
                     go_simp
                     with_reducible rfl
                    rotate_left
                    ·simp only [uc, uA, uB, uC, uZ, ua]
                     rfl
                    refine take_ (i := 7) (N := some 110) (v := ?_) (a' := ?_) #[true, true, true, true, true, true, true, true, true, true, true, true, false, false, false, false, false, false, false, false, false, false, false, false, false, false] rfl rfl (take_ofW HT_.out HW_.out (by kernel_rfl)) (fun _ _ _ h => h) (Or.inl ⟨by rfl, ?_⟩) hHeld ?_ ?_
                    rotate_left
                    ·rintro w' ⟨s0, s1, s2, s3, s4, s5, s6, s7, s8, s9⟩
                     go_simp
                     with_reducible rfl
                    rotate_left
                    ·simp only [uc, uA, uB, uC, uZ, ua]
                     rfl
                    refine take_ (i := 12) (N := some 115) (v := ?_) (a' := ?_) #[true, true, true, true, true, true, true, true, true, true, true, true, true, false, false, false, false, false, false, false, false, false, false, false, false, false] rfl rfl (take_ofW HT_.out HW_.out (by kernel_rfl)) (fun _ _ _ h => h) (Or.inl ⟨by rfl, ?_⟩) hHeld ?_ ?_
                    rotate_left
                    ·rintro w' ⟨s0, s1, s2, s3, s4, s5, s6, s7, s8, s9⟩
                     go_simp
                     with_reducible rfl
                    rotate_left
                    ·simp only [uc, uA, uB, uC, uZ, ua]
                     rfl
                    refine ub (i := 13) (N := some 116) (v := ?_) (a' := ?_) #[true, true, true, true, true, true, true, true, true, true, true, true, true, true, false, false, false, false, false, false, false, false, false, false, false, false] rfl rfl (uY HT_.out (by kernel_rfl)) (fun _ _ _ h => h) (Or.inl ⟨by rfl, ?_⟩) ?_ ?_
                    rotate_left
                    ·intro w'
                     go_simp
                     with_reducible rfl
                    rotate_left
                    ·simp only [uc, uA, uB, uC, uZ, ua]
                     rfl
                    refine ub (i := 14) (N := some 117) (v := ?_) (a' := ?_) #[true, true, true, true, true, true, true, true, true, true, true, true, true, true, true, false, false, false, false, false, false, false, false, false, false, false] rfl rfl (uY HT_.out (by kernel_rfl)) (fun _ _ _ h => h) (Or.inl ⟨by rfl, ?_⟩) ?_ ?_
                    rotate_left
                    ·intro w'
                     go_simp
                     with_reducible rfl
                    rotate_left
                    ·simp only [uc, uA, uB, uC, uZ, ua]
                     rfl
                    refine ub (i := 15) (N := some 118) (v := undef) (a' := ?_) #[true, true, true, true, true, true, true, true, true, true, true, true, true, true, true, true, false, false, false, false, false, false, false, false, false, false] rfl rfl (uY HT_.out (by kernel_rfl)) (fun _ _ _ h => h) (Or.inr ⟨by rfl, rfl⟩) ?_ ?_
                    rotate_left
                    ·simp only [uc, uA, uB, uC, uZ, ua]
                     rfl
                    refine ub (i := 16) (N := some 119) (v := undef) (a' := ?_) #[true, true, true, true, true, true, true, true, true, true, true, true, true, true, true, true, true, false, false, false, false, false, false, false, false, false] rfl rfl (uY HT_.out (by kernel_rfl)) (fun _ _ _ h => h) (Or.inr ⟨by rfl, rfl⟩) ?_ ?_
                    rotate_left
                    ·simp only [uc, uA, uB, uC, uZ, ua]
                     rfl
                    refine ub (i := 17) (N := some 120) (v := undef) (a' := ?_) #[true, true, true, true, true, true, true, true, true, true, true, true, true, true, true, true, true, true, false, false, false, false, false, false, false, false] rfl rfl (uY HT_.out (by kernel_rfl)) (fun _ _ _ h => h) (Or.inr ⟨by rfl, rfl⟩) ?_ ?_
                    rotate_left
                    ·simp only [uc, uA, uB, uC, uZ, ua]
                     rfl
                    refine ub (i := 18) (N := some 121) (v := undef) (a' := ?_) #[true, true, true, true, true, true, true, true, true, true, true, true, true, true, true, true, true, true, true, false, false, false, false, false, false, false] rfl rfl (uY HT_.out (by kernel_rfl)) (fun _ _ _ h => h) (Or.inr ⟨by rfl, rfl⟩) ?_ ?_
                    rotate_left
                    ·simp only [uc, uA, uB, uC, uZ, ua]
                     rfl
                    refine ub (i := 19) (N := some 122) (v := undef) (a' := ?_) #[true, true, true, true, true, true, true, true, true, true, true, true, true, true, true, true, true, true, true, true, false, false, false, false, false, false] rfl rfl (uY HT_.out (by kernel_rfl)) (fun _ _ _ h => h) (Or.inr ⟨by rfl, rfl⟩) ?_ ?_
                    rotate_left
                    ·simp only [uc, uA, uB, uC, uZ, ua]
                     rfl
                    refine ub (i := 20) (N := some 123) (v := undef) (a' := ?_) #[true, true, true, true, true, true, true, true, true, true, true, true, true, true, true, true, true, true, true, true, true, false, false, false, false, false] rfl rfl (uY HT_.out (by kernel_rfl)) (fun _ _ _ h => h) (Or.inr ⟨by rfl, rfl⟩) ?_ ?_
                    rotate_left
                    ·simp only [uc, uA, uB, uC, uZ, ua]
                     rfl
                    refine ub (i := 21) (N := some 124) (v := undef) (a' := ?_) #[true, true, true, true, true, true, true, true, true, true, true, true, true, true, true, true, true, true, true, true, true, true, false, false, false, false] rfl rfl (uY HT_.out (by kernel_rfl)) (fun _ _ _ h => h) (Or.inr ⟨by rfl, rfl⟩) ?_ ?_
                    rotate_left
                    ·simp only [uc, uA, uB, uC, uZ, ua]
                     rfl
                    refine ub (i := 22) (N := some 125) (v := undef) (a' := ?_) #[true, true, true, true, true, true, true, true, true, true, true, true, true, true, true, true, true, true, true, true, true, true, true, false, false, false] rfl rfl (uY HT_.out (by kernel_rfl)) (fun _ _ _ h => h) (Or.inr ⟨by rfl, rfl⟩) ?_ ?_
                    rotate_left
                    ·simp only [uc, uA, uB, uC, uZ, ua]
                     rfl
                    refine ub (i := 23) (N := some 126) (v := ?_) (a' := ?_) #[true, true, true, true, true, true, true, true, true, true, true, true, true, true, true, true, true, true, true, true, true, true, true, true, false, false] rfl rfl (uY HT_.out (by kernel_rfl)) (fun _ _ _ h => h) (Or.inl ⟨by rfl, ?_⟩) ?_ ?_
                    rotate_left
                    ·intro w'
                     go_simp
                     with_reducible rfl
                    rotate_left
                    ·simp only [uc, uA, uB, uC, uZ, ua]
                     rfl
                    refine ub (i := 24) (N := some 127) (v := ?_) (a' := ?_) #[true, true, true, true, true, true, true, true, true, true, true, true, true, true, true, true, true, true, true, true, true, true, true, true, true, false] rfl rfl (uY HT_.out (by kernel_rfl)) (fun _ _ _ h => h) (Or.inl ⟨by rfl, ?_⟩) ?_ ?_
                    rotate_left
                    ·intro w'
                     go_simp
                     with_reducible rfl
                    rotate_left
                    ·simp only [uc, uA, uB, uC, uZ, ua]
                     rfl
                    refine ub (i := 25) (N := some 16) (v := ?_) (a' := ?_) #[true, true, true, true, true, true, true, true, true, true, true, true, true, true, true, true, true, true, true, true, true, true, true, true, true, true] rfl rfl (uY HT_.out (by kernel_rfl)) (fun _ _ _ h => h) (Or.inl ⟨by rfl, ?_⟩) ?_ ?_
                    rotate_left
                    ·intro w'
                     go_simp
                     with_reducible rfl
                    rotate_left
                    ·simp only [uc, uA, uB, uC, uZ, ua]
                     rfl
                    refine done_ (done_of HT_.out (by kernel_rfl)) ?_
                    try go_wp2
                    go_roundg k3
                    case measure => have := HJ11.out; have := HK2.out; have := HK3.out; omega
                    case rel => exact ⟨(false), (wrap64 (x17_3 + 1)), (by first | rfl | (simp; done) | (simp [*]; done)), (by first | rfl | (simp; done) | (simp [*]; done)), H', ⟨by have := HJ11.out; have := HK2.out; have := HK3.out; omega⟩, ⟨by (with_reducible repeat (first | apply uU | apply uS | apply uT)); exact HO_7.out⟩, ⟨by (with_reducible repeat (first | apply uU | apply uS | apply uT)); exact HO_11.out⟩, ⟨by (with_reducible repeat (first | apply uU | apply uS | apply uT)); exact HO_331003.out⟩, ⟨by (with_reducible repeat (first | apply uU | apply uS | apply uT)); exact HO_361003.out⟩, ⟨by (with_reducible repeat (first | refine uH ?_ _ | refine uJ ?_ | refine uG ?_ _)); exact BK330.out⟩, ⟨by (with_reducible repeat (first | refine uH ?_ _ | refine uJ ?_ | refine uG ?_ _)); exact BK360.out⟩, ⟨by repeat (first | (with_reducible first | exact HB.out | apply uL | apply uE | apply uK | refine uM ?_ GE330.out | refine uM ?_ GE360.out) | exact HB.out)⟩⟩
                  ·rw [if_neg c56] at H
                   exact absurd H (by simp)
                 ·rw [if_neg c55] at H
                  exact absurd H (by simp)
                ·rw [if_neg c54] at H
                 exact absurd H (by simp)
              ·rw [if_neg c49] at H
               have c49b0 : decide (x17_3 < (t354.length : Int)) = false := decide_eq_false c49
               clear c49
               by_cases c64 : x16_3 = true
               ·subst c64
                have H1 : (if 0 ≤ x13_2 then (if x13_2 < (t344.length : Int) then (if x13_2 < (t336.length : Int) then (if ((rd_T47 t344 x13_2).f1) = (mx 0 (wrap64 (((rd_T47 t336 x13_2).f1) - 7))) then (if ((rd_T47 t344 x13_2).f2) = (wrap64 (((rd_T47 t336 x13_2).f2) + 7)) then (if ((rd_T47 t344 x13_2).f0) = ((rd_T47 t336 x13_2).f0) then (laws_FnWindows.l0 k3 (wrap64 (1 + (Int.tmod (rd t331 0) t324))) (Int.tmod (rd t331 1) 1000) t336 t344 (wrap64 (x13_2 + 1)) t324 t325 false t327) else (some false)) else (some false)) else (some false)) else (none)) else (none)) else (none)) = some true := by rw [if_pos rfl] at H; first | done | exact H
                clear H
                have H := H1
                clear H1
                by_cases c65 : 0 ≤ x13_2
                ·rw [if_pos c65] at H
                 have c65b0 : decide (0 ≤ x13_2) = true := decide_eq_true c65
                 clear c65
                 by_cases c66 : x13_2 < (t344.length : Int)
                 ·rw [if_pos c66] at H
                  have c66b0 : decide (x13_2 < (t344.length : Int)) = true := decide_eq_true c66
                  clear c66
                  by_cases c67 : x13_2 < (t336.length : Int)
                  ·rw [if_pos c67] at H
                   have c67b0 : decide (x13_2 < (t336.length : Int)) = true := decide_eq_true c67
                   clear c67
                   obtain ⟨ji68, hji68⟩ : ∃ j_ : Int, (mx 0 (wrap64 (((rd_T47 t336 x13_2).f1) - 7))) = j_ := ⟨_, rfl⟩
                   replace H : (if ((rd_T47 t344 x13_2).f1) = (ji68) then (if ((rd_T47 t344 x13_2).f2) = (wrap64 (((rd_T47 t336 x13_2).f2) + 7)) then (if ((rd_T47 t344 x13_2).f0) = ((rd_T47 t336 x13_2).f0) then (laws_FnWindows.l0 k3 (wrap64 (1 + (Int.tmod (rd t331 0) t324))) (Int.tmod (rd t331 1) 1000) t336 t344 (wrap64 (x13_2 + 1)) t324 t325 false t327) else (some false)) else (some false)) else (some false)) = some true := by first | (rw [hji68] at H; exact H) | (simp only [hji68] at H ⊢; exact H)
                   have hji68_ : (if 0 < (wrap64 (((rd_T47 t336 x13_2).f1) - 7)) then (wrap64 (((rd_T47 t336 x13_2).f1) - 7)) else 0) = ji68 := hji68
                   by_cases c69 : ((rd_T47 t344 x13_2).f1) = (ji68)
                   ·rw [if_pos c69] at H
                    have c69b0 : (((rd_T47 t344 x13_2).f1) == (ji68)) = true := beq_iff_eq.mpr c69
                    have c69b1 : (((rd_T47 t344 x13_2).f1) != (ji68)) = false := bne_eq_false_iff_eq.mpr c69
                    clear c69
                    by_cases c70 : ((rd_T47 t344 x13_2).f2) = (wrap64 (((rd_T47 t336 x13_2).f2) + 7))
                    ·rw [if_pos c70] at H
                     have c70b0 : (((rd_T47 t344 x13_2).f2) == (wrap64 (((rd_T47 t336 x13_2).f2) + 7))) = true := beq_iff_eq.mpr c70
                     have c70b1 : (((rd_T47 t344 x13_2).f2) != (wrap64 (((rd_T47 t336 x13_2).f2) + 7))) = false := bne_eq_false_iff_eq.mpr c70
                     clear c70
                     by_cases c71 : ((rd_T47 t344 x13_2).f0) = ((rd_T47 t336 x13_2).f0)
                     ·rw [if_pos c71] at H
                      have c71b0 : (((rd_T47 t344 x13_2).f0) == ((rd_T47 t336 x13_2).f0)) = true := beq_iff_eq.mpr c71
                      have c71b1 : (((rd_T47 t344 x13_2).f0) != ((rd_T47 t336 x13_2).f0)) = false := bne_eq_false_iff_eq.mpr c71
                      clear c71
                      have H' := uD H
                      clear H
                      have hnb72 := NB360_330.out
                      have hnc72 := NB330_360.out
                      have hcz73_0 : wr.cell? ⟨gb360, 0, none⟩ = some (.int .i64 t351) := (uF BK360.out 0).trans rfl
                      have hcz73_1 : wr.cell? ⟨gb360, 1, none⟩ = some (.int .i64 t352) := (uF BK360.out 1).trans rfl
                      have hcz73_2 : wr.cell? ⟨gb360, 2, none⟩ = some (.bool t353) := (uF BK360.out 2).trans rfl
                      have hcz73_3 : wr.cell? ⟨gb360, 3, none⟩ = some (.slice Ao47 t354.length co47) := (uF BK360.out 3).trans rfl
                      have hfz73_0 := uI BK360.out 0
                      have hfz73_1 := uI BK360.out 1
                      have hfz73_2 := uI BK360.out 2
                      have hfz73_3 := uI BK360.out 3
                      try go_wp2
                      have n0_ := uD (uT HO_7.out)
                      have n1_ := uD (uT HO_11.out)
                      have n2_ := uD (uT HO_331003.out)
                      have n3_ := uD (uT HO_361003.out)
                      have n4_ := uD (uJ BK330.out)
                      have n5_ := uD (uJ BK360.out)
                      have n6_ := uD (uK HB.out)
                      clear HO_7
                      clear HO_11
                      clear HO_331003
                      clear HO_361003
                      clear BK330
                      clear BK360
                      clear HB
                      have HO_7 := n0_
                      have HO_11 := n1_
                      have HO_331003 := n2_
                      have HO_361003 := n3_
                      have BK330 := n4_
                      have BK360 := n5_
                      have HB := n6_
                      clear n0_ n1_ n2_ n3_ n4_ n5_ n6_
                      obtain ⟨Ao75, co75, eo75⟩ := Kd.R_slice HO_11.out
                      (first | subst eo75 | (injection eo75 with f1_ f2_ f3_; have f4_ := f1_.symm; have f5_ := f3_.symm; clear f1_ f2_ f3_; subst f4_; subst f5_))
                      have p364 : 0 ≤ (x13_2 : Int) := of_decide_eq_true (by first | (with_reducible assumption) | assumption)
                      have q364 : x13_2 < (t344.length : Int) := of_decide_eq_true (by first | (with_reducible assumption) | assumption)
                      obtain ⟨ad364, e364, hx364_0, hx364_1, hx364_2⟩ := at_T47 (Kd.R_reads' HO_11.out).2.2 x13_2 p364 q364
                      cases e364
                      replace p364 := eq_true p364
                      replace q364 := eq_true q364
                      have p365 : 0 ≤ (x13_2 : Int) := of_decide_eq_true (by first | (with_reducible assumption) | assumption)
                      have q365 : x13_2 < (t336.length : Int) := of_decide_eq_true (by first | (with_reducible assumption) | assumption)
                      obtain ⟨ad365, e365, hx365_0, hx365_1, hx365_2⟩ := at_T47 (Kd.R_reads' HO_7.out).2.2 x13_2 p365 q365
                      obtain rfl : ad350 = ad365 := (by injection e365)
                      replace p365 := eq_true p365
                      replace q365 := eq_true q365
                      have p366 : 0 ≤ (x13_2 : Int) := of_decide_eq_true (by first | (with_reducible assumption) | assumption)
                      have q366 : x13_2 < (t344.length : Int) := of_decide_eq_true (by first | (with_reducible assumption) | assumption)
                      obtain ⟨ad366, e366, hx366_0, hx366_1, hx366_2⟩ := at_T47 (Kd.R_reads' HO_11.out).2.2 x13_2 p366 q366
                      obtain rfl : ad364 = ad366 := (by injection e366)
                      replace p366 := eq_true p366
                      replace q366 := eq_true q366
                      have p367 : 0 ≤ (x13_2 : Int) := of_decide_eq_true (by first | (with_reducible assumption) | assumption)
                      have q367 : x13_2 < (t336.length : Int) := of_decide_eq_true (by first | (with_reducible assumption) | assumption)
                      obtain ⟨ad367, e367, hx367_0, hx367_1, hx367_2⟩ := at_T47 (Kd.R_reads' HO_7.out).2.2 x13_2 p367 q367
                      obtain rfl : ad350 = ad367 := (by injection e367)
                      replace p367 := eq_true p367
                      replace q367 := eq_true q367
                      have p368 : 0 ≤ (x13_2 : Int) := of_decide_eq_true (by first | (with_reducible assumption) | assumption)
                      have q368 : x13_2 < (t344.length : Int) := of_decide_eq_true (by first | (with_reducible assumption) | assumption)
                      obtain ⟨ad368, e368, hx368_0, hx368_1, hx368_2⟩ := at_T47 (Kd.R_reads' HO_11.out).2.2 x13_2 p368 q368
                      obtain rfl : ad364 = ad368 := (by injection e368)
                      replace p368 := eq_true p368
                      replace q368 := eq_true q368
                      have p369 : 0 ≤ (x13_2 : Int) := of_decide_eq_true (by first | (with_reducible assumption) | assumption)
                      have q369 : x13_2 < (t336.length : Int) := of_decide_eq_true (by first | (with_reducible assumption) | assumption)
                      obtain ⟨ad369, e369, hx369_0, hx369_1, hx369_2⟩ := at_T47 (Kd.R_reads' HO_7.out).2.2 x13_2 p369 q369
                      obtain rfl : ad350 = ad369 := (by injection e369)
                      replace p369 := eq_true p369
                      replace q369 := eq_true q369
                      refine start_ (n := 44) (S := fun w' => w'.cell? (ad364.add ((x13_2).toNat * 3)) = some (.int .i64 ((rd_T47 t344 x13_2).f0)) ∧ w'.cell? ⟨(ad364.add ((x13_2).toNat * 3)).block, (ad364.add ((x13_2).toNat * 3)).off + 1, none⟩ = some (.int .i64 ((rd_T47 t344 x13_2).f1)) ∧ w'.cell? ⟨(ad364.add ((x13_2).toNat * 3)).block, (ad364.add ((x13_2).toNat * 3)).off + 2, none⟩ = some (.int .i64 ((rd_T47 t344 x13_2).f2)) ∧ w'.cell? (ad350.add ((x13_2).toNat * 3)) = some (.int .i64 ((rd_T47 t336 x13_2).f0)) ∧ w'.cell? ⟨(ad350.add ((x13_2).toNat * 3)).block, (ad350.add ((x13_2).toNat * 3)).off + 1, none⟩ = some (.int .i64 ((rd_T47 t336 x13_2).f1)) ∧ w'.cell? ⟨(ad350.add ((x13_2).toNat * 3)).block, (ad350.add ((x13_2).toNat * 3)).off + 2, none⟩ = some (.int .i64 ((rd_T47 t336 x13_2).f2)) ∧ w'.cell? (ad364.add ((x13_2).toNat * 3)) = some (.int .i64 ((rd_T47 t344 x13_2).f0)) ∧ w'.cell? ⟨(ad364.add ((x13_2).toNat * 3)).block, (ad364.add ((x13_2).toNat * 3)).off + 1, none⟩ = some (.int .i64 ((rd_T47 t344 x13_2).f1)) ∧ w'.cell? ⟨(ad364.add ((x13_2).toNat * 3)).block, (ad364.add ((x13_2).toNat * 3)).off + 2, none⟩ = some (.int .i64 ((rd_T47 t344 x13_2).f2)) ∧ w'.cell? (ad350.add ((x13_2).toNat * 3)) = some (.int .i64 ((rd_T47 t336 x13_2).f0)) ∧ w'.cell? ⟨(ad350.add ((x13_2).toNat * 3)).block, (ad350.add ((x13_2).toNat * 3)).off + 1, none⟩ = some (.int .i64 ((rd_T47 t336 x13_2).f1)) ∧ w'.cell? ⟨(ad350.add ((x13_2).toNat * 3)).block, (ad350.add ((x13_2).toNat * 3)).off + 2, none⟩ = some (.int .i64 ((rd_T47 t336 x13_2).f2)) ∧ w'.cell? (ad364.add ((x13_2).toNat * 3)) = some (.int .i64 ((rd_T47 t344 x13_2).f0)) ∧ w'.cell? ⟨(ad364.add ((x13_2).toNat * 3)).block, (ad364.add ((x13_2).toNat * 3)).off + 1, none⟩ = some (.int .i64 ((rd_T47 t344 x13_2).f1)) ∧ w'.cell? ⟨(ad364.add ((x13_2).toNat * 3)).block, (ad364.add ((x13_2).toNat * 3)).off + 2, none⟩ = some (.int .i64 ((rd_T47 t344 x13_2).f2)) ∧ w'.cell? (ad350.add ((x13_2).toNat * 3)) = some (.int .i64 ((rd_T47 t336 x13_2).f0)) ∧ w'.cell? ⟨(ad350.add ((x13_2).toNat * 3)).block, (ad350.add ((x13_2).toNat * 3)).off + 1, none⟩ = some (.int .i64 ((rd_T47 t336 x13_2).f1)) ∧ w'.cell? ⟨(ad350.add ((x13_2).toNat * 3)).block, (ad350.add ((x13_2).toNat * 3)).off + 2, none⟩ = some (.int .i64 ((rd_T47 t336 x13_2).f2))) (ds := []) #[false, false, false, false, false, false, false, false, false, false, false, false, false, false, false, false, false, false, false, false, false, false, false, false, false, false, false, false, false, false, false, false, false, false, false, false, false, false, false, false, false, false, false, false] (by kernel_rfl) rfl rfl ⟨hx364_0, hx364_1, hx364_2, hx365_0, hx365_1, hx365_2, hx366_0, hx366_1, hx366_2, hx367_0, hx367_1, hx367_2, hx368_0, hx368_1, hx368_2, hx369_0, hx369_1, hx369_2⟩ (fun hHeld => ?_); refine with_tabW laws_FnWindows.tab22 laws_FnWindows.bits22 (fun HT_ HW_ => ?_)
                      generalize wr.drew = w74 at HO_7 HO_11 HO_331003 HO_361003 BK330 BK360 HB hx364_0 hx364_1 hx364_2 hx365_0 hx365_1 hx365_2 hx366_0 hx366_1 hx366_2 hx367_0 hx367_1 hx367_2 hx368_0 hx368_1 hx368_2 hx369_0 hx369_1 hx369_2 hHeld ⊢
                      refine ub (i := 0) (N := some 128) (v := ?_) (a' := ?_) #[true, false, false, false, false, false, false, false, false, false, false, false, false, false, false, false, false, false, false, false, false, false, false, false, false, false, false, false, false, false, false, false, false, false, false, false, false, false, false, false, false, false, false, false] rfl rfl (uY HT_.out (by kernel_rfl)) (fun _ _ _ h => h) (Or.inl ⟨by rfl, ?_⟩) ?_ ?_
                      rotate_left
                      ·intro w'
                       go_simp
                       with_reducible rfl
                      rotate_left
                      ·simp only [uc, uA, uB, uC, uZ, ua]
                       rfl
                      refine ub (i := 1) (N := some 129) (v := ?_) (a' := ?_) #[true, true, false, false, false, false, false, false, false, false, false, false, false, false, false, false, false, false, false, false, false, false, false, false, false, false, false, false, false, false, false, false, false, false, false, false, false, false, false, false, false, false, false, false] rfl rfl (uY HT_.out (by kernel_rfl)) (fun _ _ _ h => h) (Or.inl ⟨by rfl, ?_⟩) ?_ ?_
                      rotate_left
                      ·intro w'
                       go_simp
                       with_reducible rfl
                      rotate_left
                      ·simp only [uc, uA, uB, uC, uZ, ua]
                       rfl
                      refine ub (i := 2) (N := some 130) (v := ?_) (a' := ?_) #[true, true, true, false, false, false, false, false, false, false, false, false, false, false, false, false, false, false, false, false, false, false, false, false, false, false, false, false, false, false, false, false, false, false, false, false, false, false, false, false, false, false, false, false] rfl rfl (uY HT_.out (by kernel_rfl)) (fun _ _ _ h => h) (Or.inl ⟨by rfl, ?_⟩) ?_ ?_
                      rotate_left
                      ·intro w'
                       go_simp
                       with_reducible rfl
                      rotate_left
                      ·simp only [uc, uA, uB, uC, uZ, ua]
                       rfl
                      refine ub (i := 3) (N := some 131) (v := ?_) (a' := ?_) #[true, true, true, true, false, false, false, false, false, false, false, false, false, false, false, false, false, false, false, false, false, false, false, false, false, false, false, false, false, false, false, false, false, false, false, false, false, false, false, false, false, false, false, false] rfl rfl (uY HT_.out (by kernel_rfl)) (fun _ _ _ h => h) (Or.inl ⟨by rfl, ?_⟩) ?_ ?_
                      rotate_left
                      ·intro w'
                       go_simp
                       with_reducible rfl
                      rotate_left
                      ·simp only [uc, uA, uB, uC, uZ, ua]
                       rfl
                      refine ub (i := 4) (N := some 132) (v := ?_) (a' := ?_) #[true, true, true, true, true, false, false, false, false, false, false, false, false, false, false, false, false, false, false, false, false, false, false, false, false, false, false, false, false, false, false, false, false, false, false, false, false, false, false, false, false, false, false, false] rfl rfl (uY HT_.out (by kernel_rfl)) (fun _ _ _ h => h) (Or.inl ⟨by rfl, ?_⟩) ?_ ?_
                      rotate_left
                      ·intro w'
                       go_simp
                       with_reducible rfl
                      rotate_left
                      ·simp only [uc, uA, uB, uC, uZ, ua]
                       rfl
                      refine ub (i := 5) (N := some 133) (v := ?_) (a' := ?_) #[true, true, true, true, true, true, false, false, false, false, false, false, false, false, false, false, false, false, false, false, false, false, false, false, false, false, false, false, false, false, false, false, false, false, false, false, false, false, false, false, false, false, false, false] rfl rfl (uY HT_.out (by kernel_rfl)) (fun _ _ _ h => h) (Or.inl ⟨by rfl, ?_⟩) ?_ ?_
                      rotate_left
                      ·intro w'
                       go_simp
                       with_reducible rfl
                      rotate_left
                      ·simp only [uc, uA, uB, uC, uZ, ua]
                       rfl
                      refine ub (i := 6) (N := some 134) (v := ?_) (a' := ?_) #[true, true, true, true, true, true, true, false, false, false, false, false, false, false, false, false, false, false, false, false, false, false, false, false, false, false, false, false, false, false, false, false, false, false, false, false, false, false, false, false, false, false, false, false] rfl rfl (uY HT_.out (by kernel_rfl)) (fun _ _ _ h => h) (Or.inl ⟨by rfl, ?_⟩) ?_ ?_
                      rotate_left
                      ·intro w'
                       go_simp
                       with_reducible rfl
                      rotate_left
                      ·simp only [uc, uA, uB, uC, uZ, ua]
                       rfl
                      refine ub (i := 8) (N := some 136) (v := ?_) (a' := ?_) #[true, true, true, true, true, true, true, false, true, false, false, false, false, false, false, false, false, false, false, false, false, false, false, false, false, false, false, false, false, false, false, false, false, false, false, false, false, false, false, false, false, false, false, false] rfl rfl (uY HT_.out (by kernel_rfl)) (fun _ _ _ h => h) (Or.inl ⟨by rfl, ?_⟩) ?_ ?_
                      rotate_left
                      ·intro w'
                       go_simp
                       with_reducible rfl
                      rotate_left
                      ·simp only [uc, uA, uB, uC, uZ, ua]
                       rfl
                      refine ub (i := 9) (N := some 137) (v := ?_) (a' := ?_) #[true, true, true, true, true, true, true, false, true, true, false, false, false, false, false, false, false, false, false, false, false, false, false, false, false, false, false, false, false, false, false, false, false, false, false, false, false, false, false, false, false, false, false, false] rfl rfl (uY HT_.out (by kernel_rfl)) (fun _ _ _ h => h) (Or.inl ⟨by rfl, ?_⟩) ?_ ?_
                      rotate_left
                      ·intro w'
                       go_simp
                       with_reducible rfl
                      rotate_left
                      ·simp only [uc, uA, uB, uC, uZ, ua]
                       rfl
                      refine ub (i := 10) (N := some 138) (v := ?_) (a' := ?_) #[true, true, true, true, true, true, true, false, true, true, true, false, false, false, false, false, false, false, false, false, false, false, false, false, false, false, false, false, false, false, false, false, false, false, false, false, false, false, false, false, false, false, false, false] rfl rfl (uY HT_.out (by kernel_rfl)) (fun _ _ _ h => h) (Or.inl ⟨by rfl, ?_⟩) ?_ ?_
                      rotate_left
                      ·intro w'
                       go_simp
                       with_reducible rfl
                      rotate_left
                      ·simp only [uc, uA, uB, uC, uZ, ua]
                       rfl
                      refine ub (i := 11) (N := some 139) (v := ?_) (a' := ?_) #[true, true, true, true, true, true, true, false, true, true, true, true, false, false, false, false, false, false, false, false, false, false, false, false, false, false, false, false, false, false, false, false, false, false, false, false, false, false, false, false, false, false, false, false] rfl rfl (uY HT_.out (by kernel_rfl)) (fun _ _ _ h => h) (Or.inl ⟨by rfl, ?_⟩) ?_ ?_
                      rotate_left
                      ·intro w'
                       go_simp
                       with_reducible rfl
                      rotate_left
                      ·simp only [uc, uA, uB, uC, uZ, ua]
                       rfl
                      refine take_ (i := 7) (N := some 135) (v := ?_) (a' := ?_) #[true, true, true, true, true, true, true, true, true, true, true, true, false, false, false, false, false, false, false, false, false, false, false, false, false, false, false, false, false, false, false, false, false, false, false, false, false, false, false, false, false, false, false, false] rfl rfl (take_ofW HT_.out HW_.out (by kernel_rfl)) (fun _ _ _ h => h) (Or.inl ⟨by rfl, ?_⟩) hHeld ?_ ?_
                      rotate_left
                      ·rintro w' ⟨s0, s1, s2, s3, s4, s5, s6, s7, s8, s9, s10, s11, s12, s13, s14, s15, s16, s17⟩
                       go_simp
                       with_reducible rfl
                      rotate_left
                      ·simp only [uc, uA, uB, uC, uZ, ua]
                       rfl
                      refine take_ (i := 12) (N := some 140) (v := ?_) (a' := ?_) #[true, true, true, true, true, true, true, true, true, true, true, true, true, false, false, false, false, false, false, false, false, false, false, false, false, false, false, false, false, false, false, false, false, false, false, false, false, false, false, false, false, false, false, false] rfl rfl (take_ofW HT_.out HW_.out (by kernel_rfl)) (fun _ _ _ h => h) (Or.inl ⟨by rfl, ?_⟩) hHeld ?_ ?_
                      rotate_left
                      ·rintro w' ⟨s0, s1, s2, s3, s4, s5, s6, s7, s8, s9, s10, s11, s12, s13, s14, s15, s16, s17⟩
                       go_simp
                       with_reducible rfl
                      rotate_left
                      ·simp only [uc, uA, uB, uC, uZ, ua]
                       rfl
                      refine ub (i := 13) (N := some 141) (v := ?_) (a' := ?_) #[true, true, true, true, true, true, true, true, true, true, true, true, true, true, false, false, false, false, false, false, false, false, false, false, false, false, false, false, false, false, false, false, false, false, false, false, false, false, false, false, false, false, false, false] rfl rfl (uY HT_.out (by kernel_rfl)) (fun _ _ _ h => h) (Or.inl ⟨by rfl, ?_⟩) ?_ ?_
                      rotate_left
                      ·intro w'
                       go_simp
                       with_reducible rfl
                      rotate_left
                      ·simp only [uc, uA, uB, uC, uZ, ua]
                       rfl
                      refine ub (i := 14) (N := some 142) (v := ?_) (a' := ?_) #[true, true, true, true, true, true, true, true, true, true, true, true, true, true, true, false, false, false, false, false, false, false, false, false, false, false, false, false, false, false, false, false, false, false, false, false, false, false, false, false, false, false, false, false] rfl rfl (uY HT_.out (by kernel_rfl)) (fun _ _ _ h => h) (Or.inl ⟨by rfl, ?_⟩) ?_ ?_
                      rotate_left
                      ·intro w'
                       go_simp
                       with_reducible rfl
                      rotate_left
                      ·simp only [uc, uA, uB, uC, uZ, ua]
                       rfl
                      refine ub (i := 15) (N := some 143) (v := ?_) (a' := ?_) #[true, true, true, true, true, true, true, true, true, true, true, true, true, true, true, true, false, false, false, false, false, false, false, false, false, false, false, false, false, false, false, false, false, false, false, false, false, false, false, false, false, false, false, false] rfl rfl (uY HT_.out (by kernel_rfl)) (fun _ _ _ h => h) (Or.inl ⟨by rfl, ?_⟩) ?_ ?_
                      rotate_left
                      ·intro w'
                       go_simp
                       with_reducible rfl
                      rotate_left
                      ·simp only [uc, uA, uB, uC, uZ, ua]
                       rfl
                      refine ub (i := 16) (N := some 144) (v := ?_) (a' := ?_) #[true, true, true, true, true, true, true, true, true, true, true, true, true, true, true, true, true, false, false, false, false, false, false, false, false, false, false, false, false, false, false, false, false, false, false, false, false, false, false, false, false, false, false, false] rfl rfl (uY HT_.out (by kernel_rfl)) (fun _ _ _ h => h) (Or.inl ⟨by rfl, ?_⟩) ?_ ?_
                      rotate_left
                      ·intro w'
                       go_simp
                       with_reducible rfl
                      rotate_left
                      ·simp only [uc, uA, uB, uC, uZ, ua]
                       rfl
                      refine ub (i := 17) (N := some 145) (v := ?_) (a' := ?_) #[true, true, true, true, true, true, true, true, true, true, true, true, true, true, true, true, true, true, false, false, false, false, false, false, false, false, false, false, false, false, false, false, false, false, false, false, false, false, false, false, false, false, false, false] rfl rfl (uY HT_.out (by kernel_rfl)) (fun _ _ _ h => h) (Or.inl ⟨by rfl, ?_⟩) ?_ ?_
                      rotate_left
                      ·intro w'
                       go_simp
                       with_reducible rfl
                      rotate_left
                      ·simp only [uc, uA, uB, uC, uZ, ua]
                       rfl
                      refine ub (i := 18) (N := some 146) (v := ?_) (a' := ?_) #[true, true, true, true, true, true, true, true, true, true, true, true, true, true, true, true, true, true, true, false, false, false, false, false, false, false, false, false, false, false, false, false, false, false, false, false, false, false, false, false, false, false, false, false] rfl rfl (uY HT_.out (by kernel_rfl)) (fun _ _ _ h => h) (Or.inl ⟨by rfl, ?_⟩) ?_ ?_
                      rotate_left
                      ·intro w'
                       go_simp
                       with_reducible rfl
                      rotate_left
                      ·simp only [uc, uA, uB, uC, uZ, ua]
                       rfl
                      refine ub (i := 19) (N := some 147) (v := ?_) (a' := ?_) #[true, true, true, true, true, true, true, true, true, true, true, true, true, true, true, true, true, true, true, true, false, false, false, false, false, false, false, false, false, false, false, false, false, false, false, false, false, false, false, false, false, false, false, false] rfl rfl (uY HT_.out (by kernel_rfl)) (fun _ _ _ h => h) (Or.inl ⟨by rfl, ?_⟩) ?_ ?_
                      rotate_left
                      ·intro w'
                       go_simp
                       with_reducible rfl
                      rotate_left
                      ·simp only [uc, uA, uB, uC, uZ, ua]
                       rfl
                      refine ub (i := 20) (N := some 148) (v := ?_) (a' := ?_) #[true, true, true, true, true, true, true, true, true, true, true, true, true, true, true, true, true, true, true, true, true, false, false, false, false, false, false, false, false, false, false, false, false, false, false, false, false, false, false, false, false, false, false, false] rfl rfl (uY HT_.out (by kernel_rfl)) (fun _ _ _ h => h) (Or.inl ⟨by rfl, ?_⟩) ?_ ?_
                      rotate_left
                      ·intro w'
                       go_simp
                       with_reducible rfl
                      rotate_left
                      ·simp only [uc, uA, uB, uC, uZ, ua]
                       rfl
                      refine ub (i := 21) (N := some 149) (v := ?_) (a' := ?_) #[true, true, true, true, true, true, true, true, true, true, true, true, true, true, true, true, true, true, true, true, true, true, false, false, false, false, false, false, false, false, false, false, false, false, false, false, false, false, false, false, false, false, false, false] rfl rfl (uY HT_.out (by kernel_rfl)) (fun _ _ _ h => h) (Or.inl ⟨by rfl, ?_⟩) ?_ ?_
                      rotate_left
                      ·intro w'
                       go_simp
                       with_reducible rfl
                      rotate_left
                      ·simp only [uc, uA, uB, uC, uZ, ua]
                       rfl
                      refine ub (i := 23) (N := some 151) (v := ?_) (a' := ?_) #[true, true, true, true, true, true, true, true, true, true, true, true, true, true, true, true, true, true, true, true, true, true, false, true, false, false, false, false, false, false, false, false, false, false, false, false, false, false, false, false, false, false, false, false] rfl rfl (uY HT_.out (by kernel_rfl)) (fun _ _ _ h => h) (Or.inl ⟨by rfl, ?_⟩) ?_ ?_
                      rotate_left
                      ·intro w'
                       go_simp
                       with_reducible rfl
                      rotate_left
                      ·simp only [uc, uA, uB, uC, uZ, ua]
                       rfl
                      refine ub (i := 24) (N := some 152) (v := ?_) (a' := ?_) #[true, true, true, true, true, true, true, true, true, true, true, true, true, true, true, true, true, true, true, true, true, true, false, true, true, false, false, false, false, false, false, false, false, false, false, false, false, false, false, false, false, false, false, false] rfl rfl (uY HT_.out (by kernel_rfl)) (fun _ _ _ h => h) (Or.inl ⟨by rfl, ?_⟩) ?_ ?_
                      rotate_left
                      ·intro w'
                       go_simp
                       with_reducible rfl
                      rotate_left
                      ·simp only [uc, uA, uB, uC, uZ, ua]
                       rfl
                      refine ub (i := 25) (N := some 153) (v := ?_) (a' := ?_) #[true, true, true, true, true, true, true, true, true, true, true, true, true, true, true, true, true, true, true, true, true, true, false, true, true, true, false, false, false, false, false, false, false, false, false, false, false, false, false, false, false, false, false, false] rfl rfl (uY HT_.out (by kernel_rfl)) (fun _ _ _ h => h) (Or.inl ⟨by rfl, ?_⟩) ?_ ?_
                      rotate_left
                      ·intro w'
                       go_simp
                       with_reducible rfl
                      rotate_left
                      ·simp only [uc, uA, uB, uC, uZ, ua]
                       rfl
                      refine ub (i := 26) (N := some 154) (v := ?_) (a' := ?_) #[true, true, true, true, true, true, true, true, true, true, true, true, true, true, true, true, true, true, true, true, true, true, false, true, true, true, true, false, false, false, false, false, false, false, false, false, false, false, false, false, false, false, false, false] rfl rfl (uY HT_.out (by kernel_rfl)) (fun _ _ _ h => h) (Or.inl ⟨by rfl, ?_⟩) ?_ ?_
                      rotate_left
                      ·intro w'
                       go_simp
                       with_reducible rfl
                      rotate_left
                      ·simp only [uc, uA, uB, uC, uZ, ua]
                       rfl
                      refine take_ (i := 22) (N := some 150) (v := ?_) (a' := ?_) #[true, true, true, true, true, true, true, true, true, true, true, true, true, true, true, true, true, true, true, true, true, true, true, true, true, true, true, false, false, false, false, false, false, false, false, false, false, false, false, false, false, false, false, false] rfl rfl (take_ofW HT_.out HW_.out (by kernel_rfl)) (fun _ _ _ h => h) (Or.inl ⟨by rfl, ?_⟩) hHeld ?_ ?_
                      rotate_left
                      ·rintro w' ⟨s0, s1, s2, s3, s4, s5, s6, s7, s8, s9, s10, s11, s12, s13, s14, s15, s16, s17⟩
                       go_simp
                       with_reducible rfl
                      rotate_left
                      ·simp only [uc, uA, uB, uC, uZ, ua]
                       rfl
                      refine take_ (i := 27) (N := some 155) (v := ?_) (a' := ?_) #[true, true, true, true, true, true, true, true, true, true, true, true, true, true, true, true, true, true, true, true, true, true, true, true, true, true, true, true, false, false, false, false, false, false, false, false, false, false, false, false, false, false, false, false] rfl rfl (take_ofW HT_.out HW_.out (by kernel_rfl)) (fun _ _ _ h => h) (Or.inl ⟨by rfl, ?_⟩) hHeld ?_ ?_
                      rotate_left
                      ·rintro w' ⟨s0, s1, s2, s3, s4, s5, s6, s7, s8, s9, s10, s11, s12, s13, s14, s15, s16, s17⟩
                       go_simp
                       with_reducible rfl
                      rotate_left
                      ·simp only [uc, uA, uB, uC, uZ, ua]
                       rfl
                      refine ub (i := 28) (N := some 156) (v := ?_) (a' := ?_) #[true, true, true, true, true, true, true, true, true, true, true, true, true, true, true, true, true, true, true, true, true, true, true, true, true, true, true, true, true, false, false, false, false, false, false, false, false, false, false, false, false, false, false, false] rfl rfl (uY HT_.out (by kernel_rfl)) (fun _ _ _ h => h) (Or.inl ⟨by rfl, ?_⟩) ?_ ?_
                      rotate_left
                      ·intro w'
                       go_simp
                       with_reducible rfl
                      rotate_left
                      ·simp only [uc, uA, uB, uC, uZ, ua]
                       rfl
                      refine ub (i := 29) (N := some 157) (v := ?_) (a' := ?_) #[true, true, true, true, true, true, true, true, true, true, true, true, true, true, true, true, true, true, true, true, true, true, true, true, true, true, true, true, true, true, false, false, false, false, false, false, false, false, false, false, false, false, false, false] rfl rfl (uY HT_.out (by kernel_rfl)) (fun _ _ _ h => h) (Or.inl ⟨by rfl, ?_⟩) ?_ ?_
                      rotate_left
                      ·intro w'
                       go_simp
                       with_reducible rfl
                      rotate_left
                      ·simp only [uc, uA, uB, uC, uZ, ua]
                       rfl
                      refine ub (i := 30) (N := some 158) (v := ?_) (a' := ?_) #[true, true, true, true, true, true, true, true, true, true, true, true, true, true, true, true, true, true, true, true, true, true, true, true, true, true, true, true, true, true, true, false, false, false, false, false, false, false, false, false, false, false, false, false] rfl rfl (uY HT_.out (by kernel_rfl)) (fun _ _ _ h => h) (Or.inl ⟨by rfl, ?_⟩) ?_ ?_
                      rotate_left
                      ·intro w'
                       go_simp
                       with_reducible rfl
                      rotate_left
                      ·simp only [uc, uA, uB, uC, uZ, ua]
                       rfl
                      refine ub (i := 31) (N := some 159) (v := ?_) (a' := ?_) #[true, true, true, true, true, true, true, true, true, true, true, true, true, true, true, true, true, true, true, true, true, true, true, true, true, true, true, true, true, true, true, true, false, false, false, false, false, false, false, false, false, false, false, false] rfl rfl (uY HT_.out (by kernel_rfl)) (fun _ _ _ h => h) (Or.inl ⟨by rfl, ?_⟩) ?_ ?_
                      rotate_left
                      ·intro w'
                       go_simp
                       with_reducible rfl
                      rotate_left
                      ·simp only [uc, uA, uB, uC, uZ, ua]
                       rfl
                      refine ub (i := 32) (N := some 160) (v := ?_) (a' := ?_) #[true, true, true, true, true, true, true, true, true, true, true, true, true, true, true, true, true, true, true, true, true, true, true, true, true, true, true, true, true, true, true, true, true, false, false, false, false, false, false, false, false, false, false, false] rfl rfl (uY HT_.out (by kernel_rfl)) (fun _ _ _ h => h) (Or.inl ⟨by rfl, ?_⟩) ?_ ?_
                      rotate_left
                      ·intro w'
                       go_simp
                       with_reducible rfl
                      rotate_left
                      ·simp only [uc, uA, uB, uC, uZ, ua]
                       rfl
                      refine ub (i := 33) (N := some 161) (v := ?_) (a' := ?_) #[true, true, true, true, true, true, true, true, true, true, true, true, true, true, true, true, true, true, true, true, true, true, true, true, true, true, true, true, true, true, true, true, true, true, false, false, false, false, false, false, false, false, false, false] rfl rfl (uY HT_.out (by kernel_rfl)) (fun _ _ _ h => h) (Or.inl ⟨by rfl, ?_⟩) ?_ ?_
                      rotate_left
                      ·intro w'
                       go_simp
                       with_reducible rfl
                      rotate_left
                      ·simp only [uc, uA, uB, uC, uZ, ua]
                       rfl
                      refine ub (i := 34) (N := some 162) (v := ?_) (a' := ?_) #[true, true, true, true, true, true, true, true, true, true, true, true, true, true, true, true, true, true, true, true, true, true, true, true, true, true, true, true, true, true, true, true, true, true, true, false, false, false, false, false, false, false, false, false] rfl rfl (uY HT_.out (by kernel_rfl)) (fun _ _ _ h => h) (Or.inl ⟨by rfl, ?_⟩) ?_ ?_
                      rotate_left
                      ·intro w'
                       go_simp
                       with_reducible rfl
                      rotate_left
                      ·simp only [uc, uA, uB, uC, uZ, ua]
                       rfl
                      refine ub (i := 35) (N := some 163) (v := ?_) (a' := ?_) #[true, true, true, true, true, true, true, true, true, true, true, true, true, true, true, true, true, true, true, true, true, true, true, true, true, true, true, true, true, true, true, true, true, true, true, true, false, false, false, false, false, false, false, false] rfl rfl (uY HT_.out (by kernel_rfl)) (fun _ _ _ h => h) (Or.inl ⟨by rfl, ?_⟩) ?_ ?_
                      rotate_left
                      ·intro w'
                       go_simp
                       with_reducible rfl
                      rotate_left
                      ·simp only [uc, uA, uB, uC, uZ, ua]
                       rfl
                      refine ub (i := 37) (N := some 165) (v := ?_) (a' := ?_) #[true, true, true, true, true, true, true, true, true, true, true, true, true, true, true, true, true, true, true, true, true, true, true, true, true, true, true, true, true, true, true, true, true, true, true, true, false, true, false, false, false, false, false, false] rfl rfl (uY HT_.out (by kernel_rfl)) (fun _ _ _ h => h) (Or.inl ⟨by rfl, ?_⟩) ?_ ?_
                      rotate_left
                      ·intro w'
                       go_simp
                       with_reducible rfl
                      rotate_left
                      ·simp only [uc, uA, uB, uC, uZ, ua]
                       rfl
                      refine ub (i := 38) (N := some 166) (v := ?_) (a' := ?_) #[true, true, true, true, true, true, true, true, true, true, true, true, true, true, true, true, true, true, true, true, true, true, true, true, true, true, true, true, true, true, true, true, true, true, true, true, false, true, true, false, false, false, false, false] rfl rfl (uY HT_.out (by kernel_rfl)) (fun _ _ _ h => h) (Or.inl ⟨by rfl, ?_⟩) ?_ ?_
                      rotate_left
                      ·intro w'
                       go_simp
                       with_reducible rfl
                      rotate_left
                      ·simp only [uc, uA, uB, uC, uZ, ua]
                       rfl
                      refine ub (i := 39) (N := some 167) (v := ?_) (a' := ?_) #[true, true, true, true, true, true, true, true, true, true, true, true, true, true, true, true, true, true, true, true, true, true, true, true, true, true, true, true, true, true, true, true, true, true, true, true, false, true, true, true, false, false, false, false] rfl rfl (uY HT_.out (by kernel_rfl)) (fun _ _ _ h => h) (Or.inl ⟨by rfl, ?_⟩) ?_ ?_
                      rotate_left
                      ·intro w'
                       go_simp
                       with_reducible rfl
                      rotate_left
                      ·simp only [uc, uA, uB, uC, uZ, ua]
                       rfl
                      refine ub (i := 40) (N := some 168) (v := ?_) (a' := ?_) #[true, true, true, true, true, true, true, true, true, true, true, true, true, true, true, true, true, true, true, true, true, true, true, true, true, true, true, true, true, true, true, true, true, true, true, true, false, true, true, true, true, false, false, false] rfl rfl (uY HT_.out (by kernel_rfl)) (fun _ _ _ h => h) (Or.inl ⟨by rfl, ?_⟩) ?_ ?_
                      rotate_left
                      ·intro w'
                       go_simp
                       with_reducible rfl
                      rotate_left
                      ·simp only [uc, uA, uB, uC, uZ, ua]
                       rfl
                      refine take_ (i := 36) (N := some 164) (v := ?_) (a' := ?_) #[true, true, true, true, true, true, true, true, true, true, true, true, true, true, true, true, true, true, true, true, true, true, true, true, true, true, true, true, true, true, true, true, true, true, true, true, true, true, true, true, true, false, false, false] rfl rfl (take_ofW HT_.out HW_.out (by kernel_rfl)) (fun _ _ _ h => h) (Or.inl ⟨by rfl, ?_⟩) hHeld ?_ ?_
                      rotate_left
                      ·rintro w' ⟨s0, s1, s2, s3, s4, s5, s6, s7, s8, s9, s10, s11, s12, s13, s14, s15, s16, s17⟩
                       go_simp
                       with_reducible rfl
                      rotate_left
                      ·simp only [uc, uA, uB, uC, uZ, ua]
                       rfl
                      refine take_ (i := 41) (N := some 169) (v := ?_) (a' := ?_) #[true, true, true, true, true, true, true, true, true, true, true, true, true, true, true, true, true, true, true, true, true, true, true, true, true, true, true, true, true, true, true, true, true, true, true, true, true, true, true, true, true, true, false, false] rfl rfl (take_ofW HT_.out HW_.out (by kernel_rfl)) (fun _ _ _ h => h) (Or.inl ⟨by rfl, ?_⟩) hHeld ?_ ?_
                      rotate_left
                      ·rintro w' ⟨s0, s1, s2, s3, s4, s5, s6, s7, s8, s9, s10, s11, s12, s13, s14, s15, s16, s17⟩
                       go_simp
                       with_reducible rfl
                      rotate_left
                      ·simp only [uc, uA, uB, uC, uZ, ua]
                       rfl
                      refine ub (i := 42) (N := some 170) (v := ?_) (a' := ?_) #[true, true, true, true, true, true, true, true, true, true, true, true, true, true, true, true, true, true, true, true, true, true, true, true, true, true, true, true, true, true, true, true, true, true, true, true, true, true, true, true, true, true, true, false] rfl rfl (uY HT_.out (by kernel_rfl)) (fun _ _ _ h => h) (Or.inl ⟨by rfl, ?_⟩) ?_ ?_
                      rotate_left
                      ·intro w'
                       go_simp
                       with_reducible rfl
                      rotate_left
                      ·simp only [uc, uA, uB, uC, uZ, ua]
                       rfl
                      refine ub (i := 43) (N := some 171) (v := ?_) (a' := ?_) #[true, true, true, true, true, true, true, true, true, true, true, true, true, true, true, true, true, true, true, true, true, true, true, true, true, true, true, true, true, true, true, true, true, true, true, true, true, true, true, true, true, true, true, true] rfl rfl (uY HT_.out (by kernel_rfl)) (fun _ _ _ h => h) (Or.inl ⟨by rfl, ?_⟩) ?_ ?_
                      rotate_left
                      ·intro w'
                       go_simp
                       with_reducible rfl
                      rotate_left
                      ·simp only [uc, uA, uB, uC, uZ, ua]
                       rfl
                      refine done_ (done_of HT_.out (by kernel_rfl)) ?_
                      try go_wp2
                      go_roundg k3
                      case measure => have := HJ11.out; have := HK2.out; have := HK3.out; omega
                      case rel => exact ⟨(wrap64 (x13_2 + 1)), (by first | rfl | (simp; done) | (simp [*]; done)), H', ⟨by have := HJ11.out; have := HK2.out; have := HK3.out; omega⟩, ⟨by (with_reducible repeat (first | apply uU | apply uS | apply uT)); exact HO_7.out⟩, ⟨by (with_reducible repeat (first | apply uU | apply uS | apply uT)); exact HO_11.out⟩, ⟨by (with_reducible repeat (first | apply uU | apply uS | apply uT)); exact uX HO_331003.out (fun _ hk => trivial)⟩, ⟨by (with_reducible repeat (first | refine uH ?_ _ | refine uJ ?_ | refine uG ?_ _)); exact BK330.out⟩, ⟨by repeat (first | (with_reducible first | exact HB.out | apply uL | apply uE | apply uK | refine uM ?_ GE330.out | refine uM ?_ GE360.out) | exact HB.out)⟩⟩
                     ·rw [if_neg c71] at H
                      have c71b0 : (((rd_T47 t344 x13_2).f0) == ((rd_T47 t336 x13_2).f0)) = false := beq_eq_false_iff_ne.mpr c71
                      have c71b1 : (((rd_T47 t344 x13_2).f0) != ((rd_T47 t336 x13_2).f0)) = true := bne_iff_ne.mpr c71
                      exact absurd H (by simp)
                    ·rw [if_neg c70] at H
                     have c70b0 : (((rd_T47 t344 x13_2).f2) == (wrap64 (((rd_T47 t336 x13_2).f2) + 7))) = false := beq_eq_false_iff_ne.mpr c70
                     have c70b1 : (((rd_T47 t344 x13_2).f2) != (wrap64 (((rd_T47 t336 x13_2).f2) + 7))) = true := bne_iff_ne.mpr c70
                     exact absurd H (by simp)
                   ·rw [if_neg c69] at H
                    have c69b0 : (((rd_T47 t344 x13_2).f1) == (ji68)) = false := beq_eq_false_iff_ne.mpr c69
                    have c69b1 : (((rd_T47 t344 x13_2).f1) != (ji68)) = true := bne_iff_ne.mpr c69
                    exact absurd H (by simp)
                  ·rw [if_neg c67] at H
                   exact absurd H (by simp)
                 ·rw [if_neg c66] at H
                  exact absurd H (by simp)
                ·rw [if_neg c65] at H
                 exact absurd H (by simp)
               ·replace c64 := Bool.eq_false_iff.mpr c64
                subst c64
                have H1 : (some false) = some true := by rw [if_neg (show ¬ (false = true) by decide)] at H; first | done | exact H
                clear H
                have H := H1
                clear H1
                exact absurd H (by simp)
           ·rw [if_neg c37] at H
            exact absurd H (by simp)
          ·rw [if_neg c36] at H
           have c36b0 : decide (x13_2 < (t336.length : Int)) = false := decide_eq_false c36
           clear c36
           replace H := Option.bind_eq_some_iff.mp H
           obtain ⟨t349, A760, H⟩ := H
           replace H : (some t349) = some true := H
           have A76 := uD A760
           clear A760
           have HT := Option.some.inj H
           clear H
           obtain ⟨Ao77, co77, eo77⟩ := Kd.R_slice HO_7.out
           subst eo77
           go_wp2_with (first | ((with_reducible refine gate_callee (f := 16) rfl ?_); refine goesL_ (some 173) rfl rfl Try.func16 (by kernel_rfl) rfl #[.slice Ao77 t336.length co77] rfl (by (try simp only [List.map_toArray, List.map_cons, List.map_nil]); first | done | rfl | (simp only [List.length_drop, List.length_take]; rfl)) ?_; (with_reducible refine (impl_ExpectOk.calls _ _ t336 t349 _ ?side1 ?side2 A76.out).mono ?_); (case side1 => repeat (first | exact (Kd.R_reads' HO_7.out).2.2 | (with_reducible refine Kd.C_alloc ?_ _) | (with_reducible refine Kd.C_drewN ?_ _) | (with_reducible refine Kd.C_drew ?_))); (case side2 => exact (Kd.R_reads' HO_7.out).2.1); rintro e w78 ⟨rfl, hb⟩; refine ⟨_, rfl, ?_⟩; have n0_ := uD (Kd.R_below (by (with_reducible repeat (first | apply uU | apply uS | apply uT)); exact HO_7.out) hb); have n1_ := uD (Kd.R_below (by (with_reducible repeat (first | apply uU | apply uS | apply uT)); exact HO_11.out) hb); have n2_ := uD (Kd.R_below (by (with_reducible repeat (first | apply uU | apply uS | apply uT)); exact HO_331003.out) hb); have n3_ := uD (blk_below (g := gb330) (o := .cells #[.int .i64 t324, .int .i64 t325, .bool false, .slice Ao16 t327.length co16] 63 (0, 0)) (by (with_reducible repeat (first | refine uH ?_ _ | refine uJ ?_ | refine uG ?_ _)); exact BK330.out) hb); have n4_ := uD (uO (by repeat (first | (with_reducible first | exact HB.out | apply uL | apply uE | apply uK | refine uM ?_ GE330.out) | exact HB.out)) hb); clear HO_7; clear HO_11; clear HO_331003; clear BK330; clear HB; have HO_7 := n0_; have HO_11 := n1_; have HO_331003 := n2_; have BK330 := n3_; have HB := n4_; clear n0_ n1_ n2_ n3_ n4_; (try clear hb); (try clear hb2); (try clear hk); (try clear hi)))
           go_ret
           exact ⟨by first | rfl | (simp [errW_none, errW_some] <;> rfl) | (simp [*, errW_none, errW_some] <;> rfl), by repeat (first | (with_reducible first | exact HB.out | apply uL | apply uE | apply uK | refine uM ?_ GE330.out) | exact HB.out)⟩
    ·rw [if_neg c8] at H
     exact absurd H (by simp)
  ·rw [if_neg c6] at H
   exact absurd H (by simp)

/-- THE ONE PURE STATEMENT of laws_FnWindows: yours. -/
def laws_FnWindows.Pure : Prop := ∀ (l0 : List Int), l0.length ≤ maxLen → l0.length * 1 ≤ 140737488351232 → (∀ x ∈ l0, (Lit.int .u8 x).wf = true) → ∃ k, laws_FnWindows.f k l0 = some true
theorem laws_FnWindows.walk (P : laws_FnWindows.Pure) (a0 : Option Addr) (len0 cap0 : Nat) (z0 : List Int) (w : World) (w0 : (a0 = none ∧ len0 = 0 ∧ cap0 = 0 ∧ z0 = []) ∨ ∃ x, a0 = some x ∧ len0 ≤ cap0 ∧ cap0 ≤ maxLen ∧ z0.length = cap0 ∧ (∀ i, i < z0.length → w.cell? (x.add i) = some (.int .u8 (z0.getD i 0))) ∧ ∀ n ∈ z0, (Lit.int .u8 n).wf = true) (y0 : len0 * 1 ≤ 140737488351232) :
  Calls Try.prog 11 #[.slice a0 len0 cap0] w fun e w' => e = .returned (.bool true) ∧ Below w.heap.size w w' := by
 obtain ⟨l0, rfl, hr0, hm0, hw0, hc0⟩ := ReadsInt.ofRowC w0
 obtain ⟨k, h⟩ := P l0 hm0 y0 hw0
 refine (laws_FnWindows.calls k _ _ l0 w (Kd.C_of_reads (d := (0 : Int)) (h1 := fun _ => rfl) hr0) hc0 h).mono ?_
 rintro e w' ⟨rfl, hd⟩
 exact ⟨rfl, hd⟩

end Go.Proofs.Ytnnimbbffbfhoaa.PFnWindows
