-- Written by a program of this session (wip/myprint.py: the kit's print with changes): not by print.sh itself.
import Derived.Test.YtnkaimdcdedekaaDoorPFnCandidatesx0
import Derived.Test.YtnkaimdcdedekaaDoorPFnCandidatesx1
import Derived.Test.YtnkaimdcdedekaaDoorPFnCandidatesx2
import Derived.Test.YtnkaimdcdedekaaDoorPFnCandidatesx3
import Derived.Test.YtnkaimdcdedekaaDoorPFnCandidatesx5
import Derived.Test.YtnkaimdcdedekaaDoorPFnCandidatesx6
import Derived.Test.YtnkaimdcdedekaaDoorPFnCandidatesx7
namespace Go.Proofs.YtnkaimdcdedekaaDoor.PFnCandidates
open Go.RowKit Go.Proofs.YtnkaimdcdedekaaDoorW.PrintWords Go.Proofs.YtnkaimdcdedekaaDoorW.PrintLast Go.Proofs.YtnkaimdcdedekaaDoorW.PrintMore
open Go renaming Act.put → uc
open Go.Proofs.YtnkaimdcdedekaaDoorW.PrintLast renaming any_of → uY, i64_w → uZ, i32_w → ua, pure_ → ub
open Go.Proofs.YtnkaimdcdedekaaDoorW.PrintWords renaming Aside0.mk → uD, blk_cell → uF, blk_alloc → uG, blk_drewN → uH, blk_drew → uJ, below_drew1 → uK, below_size → uN, below_step → uO, blk_put → uP, Kd.R_drewN → uS, Kd.R_drew → uT, Kd.R_alloc → uU, Kd.R_far → uV, Kd.R_mono → uX
open List renaming setIfInBounds_toArray → uA, set_cons_zero → uB, set_cons_succ → uC
open Bool renaming true → T, false → F
attribute [local go_sem] max2_int min2_int max_two min_two max_three min_three max_four min_four   -- for this text's walks alone
set_option linter.unusedVariables false
set_option linter.unusedSimpArgs false

attribute [local go_sem high] eqA25
/-! ### laws_FnCandidates: function 7 -/
mutual
def laws_FnCandidates.j0 : Nat → ByteArray → List (S25) → Bool → Option (Bool)
 | 0, _, _, _ => none
 | k + 1, x3, x4, x69 => if x69 = true then (some false) else (laws_FnCandidates.l0 k x3 x4 0)
def laws_FnCandidates.l0 : Nat → ByteArray → List (S25) → Int → Option (Bool)
 | 0, _, _, _ => none
 | k + 1, x3, x4, x10 => if x10 < (x4.length : Int) then (if 0 ≤ x10 then ((impl_FormatTag.f k ((rd_T25 x4 x10).f0) ((rd_T25 x4 x10).f1) ((rd_T25 x4 x10).f2)).bind fun t271 => (if x10 > 0 then ((impl_TagNumber.f ((rd_T25 x4 x10).f0) ((rd_T25 x4 x10).f1) ((rd_T25 x4 x10).f2)).bind fun t273 => (if 0 ≤ (wrap64 (x10 - 1)) then (if (wrap64 (x10 - 1)) < (x4.length : Int) then ((impl_TagNumber.f ((rd_T25 x4 (wrap64 (x10 - 1))).f0) ((rd_T25 x4 (wrap64 (x10 - 1))).f1) ((rd_T25 x4 (wrap64 (x10 - 1))).f2)).bind fun t275 => (if t273 ≤ t275 then (laws_FnCandidates.j2 k x3 x4 x10 t271 true) else (laws_FnCandidates.j2 k x3 x4 x10 t271 ((t271.size : Int) != (x3.size : Int))))) else (none)) else (none))) else (laws_FnCandidates.j2 k x3 x4 x10 t271 ((t271.size : Int) != (x3.size : Int))))) else (none)) else (some true)
def laws_FnCandidates.j2 : Nat → ByteArray → List (S25) → Int → ByteArray → Bool → Option (Bool)
 | 0, _, _, _, _, _ => none
 | k + 1, x3, x4, x10, x11, x103 => if x103 = true then (some false) else (laws_FnCandidates.l1 k x3 x4 x10 x11 0)
def laws_FnCandidates.l1 : Nat → ByteArray → List (S25) → Int → ByteArray → Int → Option (Bool)
 | 0, _, _, _, _, _ => none
 | k + 1, x3, x4, x10, x11, x12 => if x12 < (x11.size : Int) then (if 0 ≤ x12 then (if x12 < (x3.size : Int) then (if (bt x3 x12) = 63 then (laws_FnCandidates.l1 k x3 x4 x10 x11 (wrap64 (x12 + 1))) else (if (bt x3 x12) = (bt x11 x12) then (laws_FnCandidates.l1 k x3 x4 x10 x11 (wrap64 (x12 + 1))) else (some false))) else (none)) else (none)) else (laws_FnCandidates.l0 k x3 x4 (wrap64 (x10 + 1)))
end
def laws_FnCandidates.f (k : Nat) (l0 : List Int) : Option (Bool) := (laws_big.f l0).bind fun t252 => (if t252 = true then (some true) else ((spec_DrawCandidates.f k l0).bind fun t253 => ((impl_Candidates.f k t253).bind fun bt254 => ((spec_Candidates.f k t253).bind fun bt258 => ((impl_RepairTag.f k t253).bind fun bt262 => (if (bt254.2 != bt258.2) = true then (laws_FnCandidates.j0 k t253 bt254.1 true) else ((laws_sameTags.f k bt254.1 bt258.1).bind fun t267 => (if t267 = true then (if bt258.2 = true then (if (bt262.2.2.2 != ((bt258.1.length : Int) == 1)) = true then (laws_FnCandidates.j0 k t253 bt254.1 true) else (if bt262.2.2.2 = true then (if 0 < (bt258.1.length : Int) then (if (!(bt262.1 == ((rd_T25 bt258.1 0).f0)) || (!(bt262.2.1 == ((rd_T25 bt258.1 0).f1)) || (!(bt262.2.2.1 == ((rd_T25 bt258.1 0).f2))))) = true then (laws_FnCandidates.j0 k t253 bt254.1 true) else (laws_FnCandidates.j0 k t253 bt254.1 false)) else (none)) else (laws_FnCandidates.j0 k t253 bt254.1 (!(bt262.1 == 0) || (!(bt262.2.1 == 0) || (!(bt262.2.2.1 == 0))))))) else (if (bt262.2.2.2 != false) = true then (laws_FnCandidates.j0 k t253 bt254.1 true) else (if bt262.2.2.2 = true then (if 0 < (bt258.1.length : Int) then (if (!(bt262.1 == ((rd_T25 bt258.1 0).f0)) || (!(bt262.2.1 == ((rd_T25 bt258.1 0).f1)) || (!(bt262.2.2.1 == ((rd_T25 bt258.1 0).f2))))) = true then (laws_FnCandidates.j0 k t253 bt254.1 true) else (laws_FnCandidates.j0 k t253 bt254.1 false)) else (none)) else (laws_FnCandidates.j0 k t253 bt254.1 (!(bt262.1 == 0) || (!(bt262.2.1 == 0) || (!(bt262.2.2.1 == 0)))))))) else (laws_FnCandidates.j0 k t253 bt254.1 true)))))))))
theorem laws_FnCandidates.mono_l : ∀ k, (∀ y0 y1 y2, LeO (laws_FnCandidates.j0 k y0 y1 y2) (laws_FnCandidates.j0 (k + 1) y0 y1 y2)) ∧ (∀ y0 y1 y2, LeO (laws_FnCandidates.l0 k y0 y1 y2) (laws_FnCandidates.l0 (k + 1) y0 y1 y2)) ∧ (∀ y0 y1 y2 y3 y4, LeO (laws_FnCandidates.j2 k y0 y1 y2 y3 y4) (laws_FnCandidates.j2 (k + 1) y0 y1 y2 y3 y4)) ∧ (∀ y0 y1 y2 y3 y4, LeO (laws_FnCandidates.l1 k y0 y1 y2 y3 y4) (laws_FnCandidates.l1 (k + 1) y0 y1 y2 y3 y4))
 | 0 => ⟨fun _ _ _ r h => by simp [laws_FnCandidates.j0] at h, fun _ _ _ r h => by simp [laws_FnCandidates.l0] at h, fun _ _ _ _ _ r h => by simp [laws_FnCandidates.j2] at h, fun _ _ _ _ _ r h => by simp [laws_FnCandidates.l1] at h⟩
 | k + 1 => by
  obtain ⟨ih0, ih1, ih2, ih3⟩ := laws_FnCandidates.mono_l k
  refine ⟨?_, ?_, ?_, ?_⟩
  ·intro y0 y1 y2
   unfold laws_FnCandidates.j0
   repeat' first
   | (with_reducible exact ih0 _ _ _)
   | (with_reducible exact ih1 _ _ _)
   | (with_reducible exact ih2 _ _ _ _ _)
   | (with_reducible exact ih3 _ _ _ _ _)
   | (with_reducible exact impl_Candidates.mono _ _)
   | (with_reducible exact impl_FormatTag.mono _ _ _ _)
   | (with_reducible exact impl_RepairTag.mono _ _)
   | (with_reducible exact laws_sameTags.mono _ _ _)
   | (with_reducible exact spec_Candidates.mono _ _)
   | (with_reducible exact spec_DrawCandidates.mono _ _)
   | (with_reducible exact LeO.refl _)
   | (with_reducible exact LeO.none _)
   | (with_reducible refine LeO.ite ?_ ?_)
   | (with_reducible refine LeO.bind ?_ (fun _ => ?_))
   | exact ih0 _ _ _
   | exact ih1 _ _ _
   | exact ih2 _ _ _ _ _
   | exact ih3 _ _ _ _ _
   | exact impl_Candidates.mono _ _
   | exact impl_FormatTag.mono _ _ _ _
   | exact impl_RepairTag.mono _ _
   | exact laws_sameTags.mono _ _ _
   | exact spec_Candidates.mono _ _
   | exact spec_DrawCandidates.mono _ _
   | exact LeO.none _
   | refine LeO.ite ?_ ?_
   | refine LeO.bind ?_ (fun _ => ?_)
  ·intro y0 y1 y2
   unfold laws_FnCandidates.l0
   repeat' first
   | (with_reducible exact ih0 _ _ _)
   | (with_reducible exact ih1 _ _ _)
   | (with_reducible exact ih2 _ _ _ _ _)
   | (with_reducible exact ih3 _ _ _ _ _)
   | (with_reducible exact impl_Candidates.mono _ _)
   | (with_reducible exact impl_FormatTag.mono _ _ _ _)
   | (with_reducible exact impl_RepairTag.mono _ _)
   | (with_reducible exact laws_sameTags.mono _ _ _)
   | (with_reducible exact spec_Candidates.mono _ _)
   | (with_reducible exact spec_DrawCandidates.mono _ _)
   | (with_reducible exact LeO.refl _)
   | (with_reducible exact LeO.none _)
   | (with_reducible refine LeO.ite ?_ ?_)
   | (with_reducible refine LeO.bind ?_ (fun _ => ?_))
   | exact ih0 _ _ _
   | exact ih1 _ _ _
   | exact ih2 _ _ _ _ _
   | exact ih3 _ _ _ _ _
   | exact impl_Candidates.mono _ _
   | exact impl_FormatTag.mono _ _ _ _
   | exact impl_RepairTag.mono _ _
   | exact laws_sameTags.mono _ _ _
   | exact spec_Candidates.mono _ _
   | exact spec_DrawCandidates.mono _ _
   | exact LeO.none _
   | refine LeO.ite ?_ ?_
   | refine LeO.bind ?_ (fun _ => ?_)
  ·intro y0 y1 y2 y3 y4
   unfold laws_FnCandidates.j2
   repeat' first
   | (with_reducible exact ih0 _ _ _)
   | (with_reducible exact ih1 _ _ _)
   | (with_reducible exact ih2 _ _ _ _ _)
   | (with_reducible exact ih3 _ _ _ _ _)
   | (with_reducible exact impl_Candidates.mono _ _)
   | (with_reducible exact impl_FormatTag.mono _ _ _ _)
   | (with_reducible exact impl_RepairTag.mono _ _)
   | (with_reducible exact laws_sameTags.mono _ _ _)
   | (with_reducible exact spec_Candidates.mono _ _)
   | (with_reducible exact spec_DrawCandidates.mono _ _)
   | (with_reducible exact LeO.refl _)
   | (with_reducible exact LeO.none _)
   | (with_reducible refine LeO.ite ?_ ?_)
   | (with_reducible refine LeO.bind ?_ (fun _ => ?_))
   | exact ih0 _ _ _
   | exact ih1 _ _ _
   | exact ih2 _ _ _ _ _
   | exact ih3 _ _ _ _ _
   | exact impl_Candidates.mono _ _
   | exact impl_FormatTag.mono _ _ _ _
   | exact impl_RepairTag.mono _ _
   | exact laws_sameTags.mono _ _ _
   | exact spec_Candidates.mono _ _
   | exact spec_DrawCandidates.mono _ _
   | exact LeO.none _
   | refine LeO.ite ?_ ?_
   | refine LeO.bind ?_ (fun _ => ?_)
  ·intro y0 y1 y2 y3 y4
   unfold laws_FnCandidates.l1
   repeat' first
   | (with_reducible exact ih0 _ _ _)
   | (with_reducible exact ih1 _ _ _)
   | (with_reducible exact ih2 _ _ _ _ _)
   | (with_reducible exact ih3 _ _ _ _ _)
   | (with_reducible exact impl_Candidates.mono _ _)
   | (with_reducible exact impl_FormatTag.mono _ _ _ _)
   | (with_reducible exact impl_RepairTag.mono _ _)
   | (with_reducible exact laws_sameTags.mono _ _ _)
   | (with_reducible exact spec_Candidates.mono _ _)
   | (with_reducible exact spec_DrawCandidates.mono _ _)
   | (with_reducible exact LeO.refl _)
   | (with_reducible exact LeO.none _)
   | (with_reducible refine LeO.ite ?_ ?_)
   | (with_reducible refine LeO.bind ?_ (fun _ => ?_))
   | exact ih0 _ _ _
   | exact ih1 _ _ _
   | exact ih2 _ _ _ _ _
   | exact ih3 _ _ _ _ _
   | exact impl_Candidates.mono _ _
   | exact impl_FormatTag.mono _ _ _ _
   | exact impl_RepairTag.mono _ _
   | exact laws_sameTags.mono _ _ _
   | exact spec_Candidates.mono _ _
   | exact spec_DrawCandidates.mono _ _
   | exact LeO.none _
   | refine LeO.ite ?_ ?_
   | refine LeO.bind ?_ (fun _ => ?_)
theorem laws_FnCandidates.mono : ∀ a0 k, LeO (laws_FnCandidates.f k a0) (laws_FnCandidates.f (k + 1) a0) := by
 intro a0 k
 obtain ⟨ih0, ih1, ih2, ih3⟩ := laws_FnCandidates.mono_l k
 unfold laws_FnCandidates.f
 repeat' first
   | (with_reducible exact ih0 _ _ _)
   | (with_reducible exact ih1 _ _ _)
   | (with_reducible exact ih2 _ _ _ _ _)
   | (with_reducible exact ih3 _ _ _ _ _)
   | (with_reducible exact impl_Candidates.mono _ _)
   | (with_reducible exact impl_FormatTag.mono _ _ _ _)
   | (with_reducible exact impl_RepairTag.mono _ _)
   | (with_reducible exact laws_sameTags.mono _ _ _)
   | (with_reducible exact spec_Candidates.mono _ _)
   | (with_reducible exact spec_DrawCandidates.mono _ _)
   | (with_reducible exact LeO.refl _)
   | (with_reducible exact LeO.none _)
   | (with_reducible refine LeO.ite ?_ ?_)
   | (with_reducible refine LeO.bind ?_ (fun _ => ?_))
   | exact ih0 _ _ _
   | exact ih1 _ _ _
   | exact ih2 _ _ _ _ _
   | exact ih3 _ _ _ _ _
   | exact impl_Candidates.mono _ _
   | exact impl_FormatTag.mono _ _ _ _
   | exact impl_RepairTag.mono _ _
   | exact laws_sameTags.mono _ _ _
   | exact spec_Candidates.mono _ _
   | exact spec_DrawCandidates.mono _ _
   | exact LeO.none _
   | refine LeO.ite ?_ ?_
   | refine LeO.bind ?_ (fun _ => ?_)
def laws_FnCandidates.T7 : Bool × List (List Nat × List Nat) := (true, [([], []), ([], []), ([0, 1], [0, 1]), ([2], [2]), ([3], [3]), ([3], [3]), ([4, 5, 3, 3], [3, 4, 5]), ([6, 3], [3, 6]), ([3, 7], [3, 7]), ([8, 6], [8]), ([9], [9]), ([9], [9]), ([11, 9, 9], [9, 11]), ([12], [12]), ([13, 12], [12, 13]), ([14, 12], [12, 14]), ([12, 15, 9], [9, 12, 15]), ([10, 16, 9], [9, 10, 16]), ([9, 17], [9, 17]), ([18, 12], [18]), ([19], [19]), ([20, 19, 19], [19, 20]), ([21], [21]), ([21], [21]), ([23, 21], [21, 23]), ([24, 21], [21, 24]), ([22, 25, 21], [21, 22, 25]), ([21, 26, 19], [19, 21, 26]), ([19, 27], [19, 27]), ([28, 21], [28]), ([29], [29]), ([30, 29], [29, 30]), ([31, 29, 29], [29, 31]), ([32], [32]), ([32], [32]), ([33, 34, 32], [32, 33, 34]), ([32, 35, 29], [29, 32, 35]), ([29, 36], [29, 36])])
def laws_FnCandidates.B7 : List Nat := [0, 0, 3, 7, 15, 15, 63, 127, 255, 511, 1023, 1023, 3071, 7167, 15359, 31743, 64511, 131071, 262143, 524287, 1048575, 2097151, 4194303, 4194303, 12582911, 29360127, 67108863, 134217727, 268435455, 536870911, 1073741823, 2147483647, 4294967295, 8589934591, 8589934591, 34359738367, 68719476735, 137438953471]
theorem laws_FnCandidates.tab7 : rtab .any (opsOf Tryd.f7 7) = laws_FnCandidates.T7 := by kernel_rfl
theorem laws_FnCandidates.bits7 : waitsOk laws_FnCandidates.T7.2 laws_FnCandidates.B7 = true := by kernel_rfl
def laws_FnCandidates.T13 : Bool × List (List Nat × List Nat) := (true, [([], []), ([0], [0]), ([1], [1]), ([2], [2]), ([2], [2]), ([3, 4, 2], [2, 3, 4]), ([5, 2], [2, 5]), ([6, 2, 2], [2, 6]), ([2], [2]), ([2], [2]), ([9, 2], [2, 9]), ([8, 10, 2], [2, 8, 10]), ([11, 2], [2, 11]), ([12, 7, 2], [2, 12]), ([7, 13, 2], [2, 7, 13]), ([2, 14], [2, 14]), ([15, 13], [15]), ([16], [16]), ([17, 16], [16, 17]), ([16], [16]), ([19, 16], [16, 19]), ([18, 20, 16], [16, 18, 20]), ([16, 21], [16, 21])])
def laws_FnCandidates.B13 : List Nat := [0, 1, 3, 7, 7, 31, 63, 127, 7, 7, 519, 1799, 3847, 8191, 16383, 32767, 65535, 131071, 262143, 131071, 655359, 2097151, 4194303]
theorem laws_FnCandidates.tab13 : rtab .any (opsOf Tryd.f7 13) = laws_FnCandidates.T13 := by kernel_rfl
theorem laws_FnCandidates.bits13 : waitsOk laws_FnCandidates.T13.2 laws_FnCandidates.B13 = true := by kernel_rfl
def laws_FnCandidates.T18 : Bool × List (List Nat × List Nat) := (true, [([], []), ([], []), ([0, 1], [0, 1]), ([2], [2]), ([3], [3]), ([4], [4]), ([4], [4]), ([5, 6, 4], [4, 5, 6]), ([4], [4]), ([4], [4]), ([8, 9, 4], [4, 8, 9]), ([7, 10, 4], [4, 7, 10]), ([4, 11], [4, 11])])
def laws_FnCandidates.B18 : List Nat := [0, 0, 3, 7, 15, 31, 31, 127, 31, 31, 799, 2047, 4095]
theorem laws_FnCandidates.tab18 : rtab .any (opsOf Tryd.f7 18) = laws_FnCandidates.T18 := by kernel_rfl
theorem laws_FnCandidates.bits18 : waitsOk laws_FnCandidates.T18.2 laws_FnCandidates.B18 = true := by kernel_rfl
set_option maxHeartbeats 8000000 in
set_option maxRecDepth 100000 in
theorem laws_FnCandidates.calls (k : Nat) (A0 : Option Addr) (c0 : Nat) (l0 : List Int) (w : World) (hr0 : Kd.C (Kd.int .u8) w A0 l0.length l0) (hc0 : l0.length ≤ c0) (htab : Tab1 Tryd.prog w) (h : laws_FnCandidates.f k l0 = some true) :
  Calls Tryd.prog 7 #[.slice A0 l0.length c0] w fun e w' => e = .returned (.bool true) ∧ Below w.heap.size w w' := by
 have hu25 := Tryd.underlying25
 have HR0 := uD hr0
 have HC0 := uD hc0
 clear hr0 hc0
 have HB := uD (Below.refl w.heap.size w)
 have HTAB := uD htab
 clear htab
 have H : ((laws_big.f l0).bind fun t252 => (if t252 = true then (some true) else ((spec_DrawCandidates.f k l0).bind fun t253 => ((impl_Candidates.f k t253).bind fun bt254 => ((spec_Candidates.f k t253).bind fun bt258 => ((impl_RepairTag.f k t253).bind fun bt262 => (if (bt254.2 != bt258.2) = true then (laws_FnCandidates.j0 k t253 bt254.1 true) else ((laws_sameTags.f k bt254.1 bt258.1).bind fun t267 => (if t267 = true then (if bt258.2 = true then (if (bt262.2.2.2 != ((bt258.1.length : Int) == 1)) = true then (laws_FnCandidates.j0 k t253 bt254.1 true) else (if bt262.2.2.2 = true then (if 0 < (bt258.1.length : Int) then (if (!(bt262.1 == ((rd_T25 bt258.1 0).f0)) || (!(bt262.2.1 == ((rd_T25 bt258.1 0).f1)) || (!(bt262.2.2.1 == ((rd_T25 bt258.1 0).f2))))) = true then (laws_FnCandidates.j0 k t253 bt254.1 true) else (laws_FnCandidates.j0 k t253 bt254.1 false)) else (none)) else (laws_FnCandidates.j0 k t253 bt254.1 (!(bt262.1 == 0) || (!(bt262.2.1 == 0) || (!(bt262.2.2.1 == 0))))))) else (if (bt262.2.2.2 != false) = true then (laws_FnCandidates.j0 k t253 bt254.1 true) else (if bt262.2.2.2 = true then (if 0 < (bt258.1.length : Int) then (if (!(bt262.1 == ((rd_T25 bt258.1 0).f0)) || (!(bt262.2.1 == ((rd_T25 bt258.1 0).f1)) || (!(bt262.2.2.1 == ((rd_T25 bt258.1 0).f2))))) = true then (laws_FnCandidates.j0 k t253 bt254.1 true) else (laws_FnCandidates.j0 k t253 bt254.1 false)) else (none)) else (laws_FnCandidates.j0 k t253 bt254.1 (!(bt262.1 == 0) || (!(bt262.2.1 == 0) || (!(bt262.2.2.1 == 0)))))))) else (laws_FnCandidates.j0 k t253 bt254.1 true)))))))))) = some true := h
 clear h
 replace H := Option.bind_eq_some_iff.mp H
 obtain ⟨t252, A20, H⟩ := H
 replace H : (if t252 = true then (some true) else ((spec_DrawCandidates.f k l0).bind fun t253 => ((impl_Candidates.f k t253).bind fun bt254 => ((spec_Candidates.f k t253).bind fun bt258 => ((impl_RepairTag.f k t253).bind fun bt262 => (if (bt254.2 != bt258.2) = true then (laws_FnCandidates.j0 k t253 bt254.1 true) else ((laws_sameTags.f k bt254.1 bt258.1).bind fun t267 => (if t267 = true then (if bt258.2 = true then (if (bt262.2.2.2 != ((bt258.1.length : Int) == 1)) = true then (laws_FnCandidates.j0 k t253 bt254.1 true) else (if bt262.2.2.2 = true then (if 0 < (bt258.1.length : Int) then (if (!(bt262.1 == ((rd_T25 bt258.1 0).f0)) || (!(bt262.2.1 == ((rd_T25 bt258.1 0).f1)) || (!(bt262.2.2.1 == ((rd_T25 bt258.1 0).f2))))) = true then (laws_FnCandidates.j0 k t253 bt254.1 true) else (laws_FnCandidates.j0 k t253 bt254.1 false)) else (none)) else (laws_FnCandidates.j0 k t253 bt254.1 (!(bt262.1 == 0) || (!(bt262.2.1 == 0) || (!(bt262.2.2.1 == 0))))))) else (if (bt262.2.2.2 != false) = true then (laws_FnCandidates.j0 k t253 bt254.1 true) else (if bt262.2.2.2 = true then (if 0 < (bt258.1.length : Int) then (if (!(bt262.1 == ((rd_T25 bt258.1 0).f0)) || (!(bt262.2.1 == ((rd_T25 bt258.1 0).f1)) || (!(bt262.2.2.1 == ((rd_T25 bt258.1 0).f2))))) = true then (laws_FnCandidates.j0 k t253 bt254.1 true) else (laws_FnCandidates.j0 k t253 bt254.1 false)) else (none)) else (laws_FnCandidates.j0 k t253 bt254.1 (!(bt262.1 == 0) || (!(bt262.2.1 == 0) || (!(bt262.2.2.1 == 0)))))))) else (laws_FnCandidates.j0 k t253 bt254.1 true))))))))) = some true := H
 have A2 := uD A20
 clear A20
 by_cases c3 : t252 = true
 ·subst c3
  have H1 : (some true) = some true := by rw [if_pos rfl] at H; first | done | exact H
  clear H
  have H := H1
  clear H1
  have HT := Option.some.inj H
  clear H
  go_enter Tryd.func7, Tryd.ntmps7
  go_wp2_with (first | ((with_reducible refine gate_callee (f := 25) rfl ?_); refine gl (some 14) Tryd.func25 #[.slice A0 l0.length c0] ?_; (with_reducible refine (laws_big.calls _ _ l0 true _ ?side1 ?side2 A2.out).mono ?_); (case side1 => exact pc HR0.out); (case side2 => exact HC0.out); rintro e w' ⟨rfl, ⟨nd, rfl⟩⟩; refine ⟨_, rfl, ?_⟩))
  go_ret
  exact ⟨by first | rfl | (simp [errW_none, errW_some] <;> rfl) | (simp [*, errW_none, errW_some] <;> rfl), pb HB⟩
 ·replace c3 := Bool.eq_false_iff.mpr c3
  subst c3
  have H1 : ((spec_DrawCandidates.f k l0).bind fun t253 => ((impl_Candidates.f k t253).bind fun bt254 => ((spec_Candidates.f k t253).bind fun bt258 => ((impl_RepairTag.f k t253).bind fun bt262 => (if (bt254.2 != bt258.2) = true then (laws_FnCandidates.j0 k t253 bt254.1 true) else ((laws_sameTags.f k bt254.1 bt258.1).bind fun t267 => (if t267 = true then (if bt258.2 = true then (if (bt262.2.2.2 != ((bt258.1.length : Int) == 1)) = true then (laws_FnCandidates.j0 k t253 bt254.1 true) else (if bt262.2.2.2 = true then (if 0 < (bt258.1.length : Int) then (if (!(bt262.1 == ((rd_T25 bt258.1 0).f0)) || (!(bt262.2.1 == ((rd_T25 bt258.1 0).f1)) || (!(bt262.2.2.1 == ((rd_T25 bt258.1 0).f2))))) = true then (laws_FnCandidates.j0 k t253 bt254.1 true) else (laws_FnCandidates.j0 k t253 bt254.1 false)) else (none)) else (laws_FnCandidates.j0 k t253 bt254.1 (!(bt262.1 == 0) || (!(bt262.2.1 == 0) || (!(bt262.2.2.1 == 0))))))) else (if (bt262.2.2.2 != false) = true then (laws_FnCandidates.j0 k t253 bt254.1 true) else (if bt262.2.2.2 = true then (if 0 < (bt258.1.length : Int) then (if (!(bt262.1 == ((rd_T25 bt258.1 0).f0)) || (!(bt262.2.1 == ((rd_T25 bt258.1 0).f1)) || (!(bt262.2.2.1 == ((rd_T25 bt258.1 0).f2))))) = true then (laws_FnCandidates.j0 k t253 bt254.1 true) else (laws_FnCandidates.j0 k t253 bt254.1 false)) else (none)) else (laws_FnCandidates.j0 k t253 bt254.1 (!(bt262.1 == 0) || (!(bt262.2.1 == 0) || (!(bt262.2.2.1 == 0)))))))) else (laws_FnCandidates.j0 k t253 bt254.1 true)))))))) = some true := by rw [if_neg (show ¬ (false = true) by decide)] at H; first | done | exact H
  clear H
  have H := H1
  clear H1
  replace H := Option.bind_eq_some_iff.mp H
  obtain ⟨t253, A40, H⟩ := H
  replace H : ((impl_Candidates.f k t253).bind fun bt254 => ((spec_Candidates.f k t253).bind fun bt258 => ((impl_RepairTag.f k t253).bind fun bt262 => (if (bt254.2 != bt258.2) = true then (laws_FnCandidates.j0 k t253 bt254.1 true) else ((laws_sameTags.f k bt254.1 bt258.1).bind fun t267 => (if t267 = true then (if bt258.2 = true then (if (bt262.2.2.2 != ((bt258.1.length : Int) == 1)) = true then (laws_FnCandidates.j0 k t253 bt254.1 true) else (if bt262.2.2.2 = true then (if 0 < (bt258.1.length : Int) then (if (!(bt262.1 == ((rd_T25 bt258.1 0).f0)) || (!(bt262.2.1 == ((rd_T25 bt258.1 0).f1)) || (!(bt262.2.2.1 == ((rd_T25 bt258.1 0).f2))))) = true then (laws_FnCandidates.j0 k t253 bt254.1 true) else (laws_FnCandidates.j0 k t253 bt254.1 false)) else (none)) else (laws_FnCandidates.j0 k t253 bt254.1 (!(bt262.1 == 0) || (!(bt262.2.1 == 0) || (!(bt262.2.2.1 == 0))))))) else (if (bt262.2.2.2 != false) = true then (laws_FnCandidates.j0 k t253 bt254.1 true) else (if bt262.2.2.2 = true then (if 0 < (bt258.1.length : Int) then (if (!(bt262.1 == ((rd_T25 bt258.1 0).f0)) || (!(bt262.2.1 == ((rd_T25 bt258.1 0).f1)) || (!(bt262.2.2.1 == ((rd_T25 bt258.1 0).f2))))) = true then (laws_FnCandidates.j0 k t253 bt254.1 true) else (laws_FnCandidates.j0 k t253 bt254.1 false)) else (none)) else (laws_FnCandidates.j0 k t253 bt254.1 (!(bt262.1 == 0) || (!(bt262.2.1 == 0) || (!(bt262.2.2.1 == 0)))))))) else (laws_FnCandidates.j0 k t253 bt254.1 true))))))) = some true := H
  have A4 := uD A40
  clear A40
  replace H := Option.bind_eq_some_iff.mp H
  obtain ⟨⟨t254, t255⟩, A50, H⟩ := H
  replace H : ((spec_Candidates.f k t253).bind fun bt258 => ((impl_RepairTag.f k t253).bind fun bt262 => (if (t255 != bt258.2) = true then (laws_FnCandidates.j0 k t253 t254 true) else ((laws_sameTags.f k t254 bt258.1).bind fun t267 => (if t267 = true then (if bt258.2 = true then (if (bt262.2.2.2 != ((bt258.1.length : Int) == 1)) = true then (laws_FnCandidates.j0 k t253 t254 true) else (if bt262.2.2.2 = true then (if 0 < (bt258.1.length : Int) then (if (!(bt262.1 == ((rd_T25 bt258.1 0).f0)) || (!(bt262.2.1 == ((rd_T25 bt258.1 0).f1)) || (!(bt262.2.2.1 == ((rd_T25 bt258.1 0).f2))))) = true then (laws_FnCandidates.j0 k t253 t254 true) else (laws_FnCandidates.j0 k t253 t254 false)) else (none)) else (laws_FnCandidates.j0 k t253 t254 (!(bt262.1 == 0) || (!(bt262.2.1 == 0) || (!(bt262.2.2.1 == 0))))))) else (if (bt262.2.2.2 != false) = true then (laws_FnCandidates.j0 k t253 t254 true) else (if bt262.2.2.2 = true then (if 0 < (bt258.1.length : Int) then (if (!(bt262.1 == ((rd_T25 bt258.1 0).f0)) || (!(bt262.2.1 == ((rd_T25 bt258.1 0).f1)) || (!(bt262.2.2.1 == ((rd_T25 bt258.1 0).f2))))) = true then (laws_FnCandidates.j0 k t253 t254 true) else (laws_FnCandidates.j0 k t253 t254 false)) else (none)) else (laws_FnCandidates.j0 k t253 t254 (!(bt262.1 == 0) || (!(bt262.2.1 == 0) || (!(bt262.2.2.1 == 0)))))))) else (laws_FnCandidates.j0 k t253 t254 true)))))) = some true := H
  have A5 := uD A50
  clear A50
  replace H := Option.bind_eq_some_iff.mp H
  obtain ⟨⟨t258, t259⟩, A60, H⟩ := H
  replace H : ((impl_RepairTag.f k t253).bind fun bt262 => (if (t255 != t259) = true then (laws_FnCandidates.j0 k t253 t254 true) else ((laws_sameTags.f k t254 t258).bind fun t267 => (if t267 = true then (if t259 = true then (if (bt262.2.2.2 != ((t258.length : Int) == 1)) = true then (laws_FnCandidates.j0 k t253 t254 true) else (if bt262.2.2.2 = true then (if 0 < (t258.length : Int) then (if (!(bt262.1 == ((rd_T25 t258 0).f0)) || (!(bt262.2.1 == ((rd_T25 t258 0).f1)) || (!(bt262.2.2.1 == ((rd_T25 t258 0).f2))))) = true then (laws_FnCandidates.j0 k t253 t254 true) else (laws_FnCandidates.j0 k t253 t254 false)) else (none)) else (laws_FnCandidates.j0 k t253 t254 (!(bt262.1 == 0) || (!(bt262.2.1 == 0) || (!(bt262.2.2.1 == 0))))))) else (if (bt262.2.2.2 != false) = true then (laws_FnCandidates.j0 k t253 t254 true) else (if bt262.2.2.2 = true then (if 0 < (t258.length : Int) then (if (!(bt262.1 == ((rd_T25 t258 0).f0)) || (!(bt262.2.1 == ((rd_T25 t258 0).f1)) || (!(bt262.2.2.1 == ((rd_T25 t258 0).f2))))) = true then (laws_FnCandidates.j0 k t253 t254 true) else (laws_FnCandidates.j0 k t253 t254 false)) else (none)) else (laws_FnCandidates.j0 k t253 t254 (!(bt262.1 == 0) || (!(bt262.2.1 == 0) || (!(bt262.2.2.1 == 0)))))))) else (laws_FnCandidates.j0 k t253 t254 true))))) = some true := H
  have A6 := uD A60
  clear A60
  replace H := Option.bind_eq_some_iff.mp H
  obtain ⟨⟨t262, t263, t264, t265⟩, A70, H⟩ := H
  replace H : (if (t255 != t259) = true then (laws_FnCandidates.j0 k t253 t254 true) else ((laws_sameTags.f k t254 t258).bind fun t267 => (if t267 = true then (if t259 = true then (if (t265 != ((t258.length : Int) == 1)) = true then (laws_FnCandidates.j0 k t253 t254 true) else (if t265 = true then (if 0 < (t258.length : Int) then (if (!(t262 == ((rd_T25 t258 0).f0)) || (!(t263 == ((rd_T25 t258 0).f1)) || (!(t264 == ((rd_T25 t258 0).f2))))) = true then (laws_FnCandidates.j0 k t253 t254 true) else (laws_FnCandidates.j0 k t253 t254 false)) else (none)) else (laws_FnCandidates.j0 k t253 t254 (!(t262 == 0) || (!(t263 == 0) || (!(t264 == 0))))))) else (if (t265 != false) = true then (laws_FnCandidates.j0 k t253 t254 true) else (if t265 = true then (if 0 < (t258.length : Int) then (if (!(t262 == ((rd_T25 t258 0).f0)) || (!(t263 == ((rd_T25 t258 0).f1)) || (!(t264 == ((rd_T25 t258 0).f2))))) = true then (laws_FnCandidates.j0 k t253 t254 true) else (laws_FnCandidates.j0 k t253 t254 false)) else (none)) else (laws_FnCandidates.j0 k t253 t254 (!(t262 == 0) || (!(t263 == 0) || (!(t264 == 0)))))))) else (laws_FnCandidates.j0 k t253 t254 true)))) = some true := H
  have A7 := uD A70
  clear A70
  have HC8 := uD H
  clear H
  go_enter Tryd.func7, Tryd.ntmps7
  go_upto_region 7 with (first | ((with_reducible refine gate_callee (f := 25) rfl ?_); refine gl (some 14) Tryd.func25 #[.slice A0 l0.length c0] ?_; (with_reducible refine (laws_big.calls _ _ l0 false _ ?side1 ?side2 A2.out).mono ?_); (case side1 => exact pc HR0.out); (case side2 => exact HC0.out); rintro e w' ⟨rfl, ⟨nd, rfl⟩⟩; refine ⟨_, rfl, ?_⟩) | ((with_reducible refine gate_callee (f := 26) rfl ?_); refine gl (some 16) Tryd.func26 #[.slice A0 l0.length c0] ?_; (with_reducible refine (spec_DrawCandidates.calls k _ _ l0 t253 _ ?side1 ?side2 A4.out).mono ?_); (case side1 => exact pc HR0.out); (case side2 => exact HC0.out); rintro e w9 ⟨rfl, hb⟩; refine ⟨_, rfl, ?_⟩; replace HB := uD (uO (pb HB) hb); (try clear hb); (try clear hb2); (try clear hk); (try clear hi)) | ((with_reducible refine gate_callee (f := 21) rfl ?_); refine gl (some 19) Tryd.func21 #[.string t253] ?_; (with_reducible refine (impl_Candidates.calls k t253 t254 t255 _ ?side1 A5.out).mono ?_); (case side1 => exact tb11 HTAB (pb HB)); rintro e w10 ⟨v256, rfl, ho0, hb⟩; refine ⟨_, rfl, ?_⟩; have HO257 := uD (Kd.R_lower ho0 (uN (pb HB))); replace HB := uD (uO (pb HB) hb); (try clear hb); (try clear hb2); (try clear hk); (try clear hi); (try clear ho0)) | ((with_reducible refine gate_callee (f := 20) rfl ?_); refine gl (some 24) Tryd.func20 #[.string t253] ?_; (with_reducible refine (spec_Candidates.calls k t253 t258 t259 _ A6.out).mono ?_); rintro e w11 ⟨v260, rfl, ho0, hb⟩; refine ⟨_, rfl, ?_⟩; have HO261 := uD (Kd.R_lower (Kd.R_new' ho0 (Kd.R_lt (pr HO257))) (uN (pb HB))); replace HO257 := uD (Kd.R_elder' (pr HO257) (Kd.R_base ho0) hb); replace HB := uD (uO (pb HB) hb); (try clear hb); (try clear hb2); (try clear hk); (try clear hi); (try clear ho0)) | ((with_reducible refine gate_callee (f := 19) rfl ?_); refine gl (some 29) Tryd.func19 #[.string t253] ?_; (with_reducible refine (impl_RepairTag.calls k t253 t262 t263 t264 t265 _ ?side1 A7.out).mono ?_); (case side1 => exact tb11 HTAB (pb HB)); rintro e w12 ⟨rfl, hb⟩; refine ⟨_, rfl, ?_⟩; replace HO257 := uD (Kd.R_below (pr HO257) hb); replace HO261 := uD (Kd.R_below (pr HO261) hb); replace HB := uD (uO (pb HB) hb); (try clear hb); (try clear hb2); (try clear hk); (try clear hi)) | ((with_reducible refine gate_dst (N := 8) rfl ?_); (try (refine gate_guard (by rfl) ?_; dsimp only)); refine bx 8 #[.int .i64 0, .int .i64 0, .int .i64 0] 25 ?_; intro gb266 hg w13 hbox hb; replace HO257 := uD (Kd.R_below (Kd.R_elderB (pr HO257) gb266 (Nat.le_of_eq hg.symm)) hb); replace HO261 := uD (Kd.R_below (Kd.R_elderB (pr HO261) gb266 (Nat.le_of_eq hg.symm)) hb); have BK266 := uD (hbox); have GW266 := uD ((by rw [hg]; exact (uN (pb HB)) : w.heap.size ≤ gb266)); have GE266 := uD ((by rw [hg]; exact (uN (pb HB)) : w.heap.size ≤ gb266)); replace HB := uD (uO (pb HB) hb); clear hb hbox hg; obtain ⟨hcz14_0, hcz14_1, hcz14_2, hfz14_0, hfz14_1, hfz14_2⟩ := cz3 BK266))
  (try simp only [uc, uA, uB, uC])
  go_cut [69] (fun v69 wc => ∃ (kq : Nat) (x69_7 : Bool), v69 = .bool x69_7 ∧ Aside0 (laws_FnCandidates.j0 kq t253 t254 x69_7 = some true) ∧ Aside0 (kq ≤ k) ∧ Aside0 (Kd.R k25 25 wc w.heap.size (fun k_ => k_ ≠ gb266) v256 t254) ∧ Aside0 (wc.heap[gb266]? = some (.cells #[.int .i64 t262, .int .i64 t263, .int .i64 t264] 25 (0, 0))) ∧ Aside0 (Below w.heap.size w wc))
  case first =>
   have H := HC8.out
   clear HC8
   by_cases c15 : (t255 != t259) = true
   ·rw [if_pos c15] at H
    have c15b0 : (t255 != t259) = true := c15
    (try (have c15b1 : decide (t255 = t259) = false := by simpa using c15))
    (try (have c15b2 : (t255 == t259) = false := by simpa using c15))
    (try (have c15b3 : ¬ (t255 = t259) := by simpa using c15))
    clear c15
    (first | rw [c15b0] | (simp only [uZ, ua]; rw [c15b0]) | skip)
    exact absurd H (by cases k <;> simp [laws_FnCandidates.j0])
   ·rw [if_neg c15] at H
    have c15b0 : (t255 != t259) = false := by simpa using c15
    (try (have c15b1 : decide (t255 = t259) = true := by simpa using c15))
    (try (have c15b2 : (t255 == t259) = true := by simpa using c15))
    clear c15
    (first | rw [c15b0] | (simp only [uZ, ua]; rw [c15b0]) | skip)
    replace H := Option.bind_eq_some_iff.mp H
    obtain ⟨t267, A160, H⟩ := H
    replace H : (if t267 = true then (if t259 = true then (if (t265 != ((t258.length : Int) == 1)) = true then (laws_FnCandidates.j0 k t253 t254 true) else (if t265 = true then (if 0 < (t258.length : Int) then (if (!(t262 == ((rd_T25 t258 0).f0)) || (!(t263 == ((rd_T25 t258 0).f1)) || (!(t264 == ((rd_T25 t258 0).f2))))) = true then (laws_FnCandidates.j0 k t253 t254 true) else (laws_FnCandidates.j0 k t253 t254 false)) else (none)) else (laws_FnCandidates.j0 k t253 t254 (!(t262 == 0) || (!(t263 == 0) || (!(t264 == 0))))))) else (if (t265 != false) = true then (laws_FnCandidates.j0 k t253 t254 true) else (if t265 = true then (if 0 < (t258.length : Int) then (if (!(t262 == ((rd_T25 t258 0).f0)) || (!(t263 == ((rd_T25 t258 0).f1)) || (!(t264 == ((rd_T25 t258 0).f2))))) = true then (laws_FnCandidates.j0 k t253 t254 true) else (laws_FnCandidates.j0 k t253 t254 false)) else (none)) else (laws_FnCandidates.j0 k t253 t254 (!(t262 == 0) || (!(t263 == 0) || (!(t264 == 0)))))))) else (laws_FnCandidates.j0 k t253 t254 true)) = some true := H
    have A16 := uD A160
    clear A160
    by_cases c17 : t267 = true
    ·subst c17
     have H1 : (if t259 = true then (if (t265 != ((t258.length : Int) == 1)) = true then (laws_FnCandidates.j0 k t253 t254 true) else (if t265 = true then (if 0 < (t258.length : Int) then (if (!(t262 == ((rd_T25 t258 0).f0)) || (!(t263 == ((rd_T25 t258 0).f1)) || (!(t264 == ((rd_T25 t258 0).f2))))) = true then (laws_FnCandidates.j0 k t253 t254 true) else (laws_FnCandidates.j0 k t253 t254 false)) else (none)) else (laws_FnCandidates.j0 k t253 t254 (!(t262 == 0) || (!(t263 == 0) || (!(t264 == 0))))))) else (if (t265 != false) = true then (laws_FnCandidates.j0 k t253 t254 true) else (if t265 = true then (if 0 < (t258.length : Int) then (if (!(t262 == ((rd_T25 t258 0).f0)) || (!(t263 == ((rd_T25 t258 0).f1)) || (!(t264 == ((rd_T25 t258 0).f2))))) = true then (laws_FnCandidates.j0 k t253 t254 true) else (laws_FnCandidates.j0 k t253 t254 false)) else (none)) else (laws_FnCandidates.j0 k t253 t254 (!(t262 == 0) || (!(t263 == 0) || (!(t264 == 0)))))))) = some true := by rw [if_pos rfl] at H; first | done | exact H
     clear H
     have H := H1
     clear H1
     by_cases c18 : t259 = true
     ·subst c18
      have H1 : (if (t265 != ((t258.length : Int) == 1)) = true then (laws_FnCandidates.j0 k t253 t254 true) else (if t265 = true then (if 0 < (t258.length : Int) then (if (!(t262 == ((rd_T25 t258 0).f0)) || (!(t263 == ((rd_T25 t258 0).f1)) || (!(t264 == ((rd_T25 t258 0).f2))))) = true then (laws_FnCandidates.j0 k t253 t254 true) else (laws_FnCandidates.j0 k t253 t254 false)) else (none)) else (laws_FnCandidates.j0 k t253 t254 (!(t262 == 0) || (!(t263 == 0) || (!(t264 == 0))))))) = some true := by rw [if_pos rfl] at H; first | done | exact H
      clear H
      have H := H1
      clear H1
      by_cases c19 : (t265 != ((t258.length : Int) == 1)) = true
      ·rw [if_pos c19] at H
       have c19b0 : (t265 != ((t258.length : Int) == 1)) = true := c19
       (try (have c19b1 : decide (t265 = ((t258.length : Int) == 1)) = false := by simpa using c19))
       (try (have c19b2 : (t265 == ((t258.length : Int) == 1)) = false := by simpa using c19))
       (try (have c19b3 : ¬ (t265 = ((t258.length : Int) == 1)) := by simpa using c19))
       clear c19
       exact absurd H (by cases k <;> simp [laws_FnCandidates.j0])
      ·rw [if_neg c19] at H
       have c19b0 : (t265 != ((t258.length : Int) == 1)) = false := by simpa using c19
       (try (have c19b1 : decide (t265 = ((t258.length : Int) == 1)) = true := by simpa using c19))
       (try (have c19b2 : (t265 == ((t258.length : Int) == 1)) = true := by simpa using c19))
       clear c19
       by_cases c20 : t265 = true
       ·subst c20
        have H1 : (if 0 < (t258.length : Int) then (if (!(t262 == ((rd_T25 t258 0).f0)) || (!(t263 == ((rd_T25 t258 0).f1)) || (!(t264 == ((rd_T25 t258 0).f2))))) = true then (laws_FnCandidates.j0 k t253 t254 true) else (laws_FnCandidates.j0 k t253 t254 false)) else (none)) = some true := by rw [if_pos rfl] at H; first | done | exact H
        clear H
        have H := H1
        clear H1
        by_cases c21 : 0 < (t258.length : Int)
        ·rw [if_pos c21] at H
         have c21b0 : decide (0 < (t258.length : Int)) = true := decide_eq_true c21
         have c21b1 : decide (0 < t258.length) = true := decide_eq_true (by omega)
         clear c21
         by_cases c22 : (!(t262 == ((rd_T25 t258 0).f0)) || (!(t263 == ((rd_T25 t258 0).f1)) || (!(t264 == ((rd_T25 t258 0).f2))))) = true
         ·rw [if_pos c22] at H
          have c22b0 : (!(t262 == ((rd_T25 t258 0).f0)) || (!(t263 == ((rd_T25 t258 0).f1)) || (!(t264 == ((rd_T25 t258 0).f2))))) = true := c22
          clear c22
          exact absurd H (by cases k <;> simp [laws_FnCandidates.j0])
         ·rw [if_neg c22] at H
          have c22b0 : (!(t262 == ((rd_T25 t258 0).f0)) || (!(t263 == ((rd_T25 t258 0).f1)) || (!(t264 == ((rd_T25 t258 0).f2))))) = false := by simpa using c22
          clear c22
          have H' := uD H
          clear H
          try go_wp2
          have n0_ : Aside0 (Kd.R k25 25 (((w13.setCell ⟨gb266, 0, none⟩ (.int .i64 t262)).setCell ⟨gb266, 1, none⟩ (.int .i64 t263)).setCell ⟨gb266, 2, none⟩ (.int .i64 t264)) w.heap.size (fun k_ => some k_ ≠ (v260 : Value).ownBlock ∧ k_ ≠ gb266) v256 t254) := ⟨by (with_reducible repeat (first | apply uU | apply uS | apply uT)); exact uX (uV (p := ⟨gb266, 2, none⟩) (uV (p := ⟨gb266, 1, none⟩) (uV (p := ⟨gb266, 0, none⟩) (uX HO257.out (fun k_ hk => (⟨hk, hk.2⟩ : _ ∧ k_ ≠ gb266))) (fun _ hk => hk.2) (.int .i64 t262)) (fun _ hk => hk.2) (.int .i64 t263)) (fun _ hk => hk.2) (.int .i64 t264)) (fun _ hk => ⟨hk.1.1.2, hk.1.2⟩)⟩
          have n1_ : Aside0 (Kd.R k25 25 (((w13.setCell ⟨gb266, 0, none⟩ (.int .i64 t262)).setCell ⟨gb266, 1, none⟩ (.int .i64 t263)).setCell ⟨gb266, 2, none⟩ (.int .i64 t264)) w.heap.size (fun k_ => some k_ ≠ (v256 : Value).ownBlock ∧ k_ ≠ gb266) v260 t258) := ⟨by (with_reducible repeat (first | apply uU | apply uS | apply uT)); exact uX (uV (p := ⟨gb266, 2, none⟩) (uV (p := ⟨gb266, 1, none⟩) (uV (p := ⟨gb266, 0, none⟩) (uX HO261.out (fun k_ hk => (⟨hk, hk.2⟩ : _ ∧ k_ ≠ gb266))) (fun _ hk => hk.2) (.int .i64 t262)) (fun _ hk => hk.2) (.int .i64 t263)) (fun _ hk => hk.2) (.int .i64 t264)) (fun _ hk => ⟨hk.1.1.2, hk.1.2⟩)⟩
          have n2_ : Aside0 ((((w13.setCell ⟨gb266, 0, none⟩ (.int .i64 t262)).setCell ⟨gb266, 1, none⟩ (.int .i64 t263)).setCell ⟨gb266, 2, none⟩ (.int .i64 t264)).heap[gb266]? = some (.cells #[.int .i64 t262, .int .i64 t263, .int .i64 t264] 25 (0, 0))) := ⟨by (with_reducible repeat first|apply uH|apply uJ|apply uG); refine uP (cs := #[.int .i64 t262, .int .i64 t263, .int .i64 0]) ?_ 2 _ rfl; (with_reducible repeat first|apply uH|apply uJ|apply uG); refine uP (cs := #[.int .i64 t262, .int .i64 0, .int .i64 0]) ?_ 1 _ rfl; (with_reducible repeat first|apply uH|apply uJ|apply uG); refine uP (cs := #[.int .i64 0, .int .i64 0, .int .i64 0]) ?_ 0 _ rfl; (with_reducible repeat first|apply uH|apply uJ|apply uG); exact BK266.out⟩
          have n3_ : Aside0 (Below w.heap.size w (((w13.setCell ⟨gb266, 0, none⟩ (.int .i64 t262)).setCell ⟨gb266, 1, none⟩ (.int .i64 t263)).setCell ⟨gb266, 2, none⟩ (.int .i64 t264))) := ⟨pb HB⟩
          (try clear HO257)
          (try clear HO261)
          (try clear BK266)
          (try clear HB)
          generalize (((w13.setCell ⟨gb266, 0, none⟩ (.int .i64 t262)).setCell ⟨gb266, 1, none⟩ (.int .i64 t263)).setCell ⟨gb266, 2, none⟩ (.int .i64 t264)) = w23 at n0_ n1_ n2_ n3_ ⊢
          have HO257 := n0_
          have HO261 := n1_
          have BK266 := n2_
          have HB := n3_
          clear n0_ n1_ n2_ n3_
          replace HO257 := uD (uT HO257.out)
          replace HO261 := uD (uT HO261.out)
          replace BK266 := uD (uJ BK266.out)
          replace HB := uD (uK HB.out)
          obtain ⟨Ao25, co25, eo25⟩ := Kd.R_slice HO257.out
          (first | subst eo25 | (injection eo25 with f1_ f2_ f3_; have f4_ := f1_.symm; have f5_ := f3_.symm; clear f1_ f2_ f3_; subst f4_; subst f5_))
          obtain ⟨Ao26, co26, eo26⟩ := Kd.R_slice HO261.out
          (first | subst eo26 | (injection eo26 with f1_ f2_ f3_; have f4_ := f1_.symm; have f5_ := f3_.symm; clear f1_ f2_ f3_; subst f4_; subst f5_))
          have p268 : 0 ≤ (0 : Int) := (by omega)
          have q268 : 0 < (t258.length : Int) := of_decide_eq_true (by first | (with_reducible assumption) | assumption)
          obtain ⟨ad268, e268, hx268_0, hx268_1, hx268_2⟩ := at_T25 (Kd.R_reads' HO261.out).2.2 0 p268 q268
          cases e268
          have qi268 : (0 < t258.length) = True := eq_true (by omega)
          (try rw [show ((0 : Int)).toNat = 0 from rfl] at hx268_0)
          (try rw [show 0 * 3 = 0 from rfl] at hx268_0)
          (try rw [Addr.add_zero'] at hx268_0)
          (try rw [show ((0 : Int)).toNat = 0 from rfl] at hx268_1)
          (try rw [show 0 * 3 = 0 from rfl] at hx268_1)
          (try rw [Addr.add_zero'] at hx268_1)
          (try rw [show ((0 : Int)).toNat = 0 from rfl] at hx268_2)
          (try rw [show 0 * 3 = 0 from rfl] at hx268_2)
          (try rw [Addr.add_zero'] at hx268_2)
          replace p268 := eq_true p268
          replace q268 := eq_true q268
          refine start_ (n := 38) (S := fun w' => w'.cell? ⟨gb266, 0, none⟩ = some (.int .i64 t262) ∧ w'.cell? ⟨gb266, 1, none⟩ = some (.int .i64 t263) ∧ w'.cell? ⟨gb266, 2, none⟩ = some (.int .i64 t264) ∧ w'.cell? ad268 = some (.int .i64 ((rd_T25 t258 0).f0)) ∧ w'.cell? ⟨ad268.block, ad268.off + 1, none⟩ = some (.int .i64 ((rd_T25 t258 0).f1)) ∧ w'.cell? ⟨ad268.block, ad268.off + 2, none⟩ = some (.int .i64 ((rd_T25 t258 0).f2))) (ds := []) #[F,F,F,F,F,F,F,F,F,F,F,F,F,F,F,F,F,F,F,F,F,F,F,F,F,F,F,F,F,F,F,F,F,F,F,F,F,F] (by kernel_rfl) rfl rfl ⟨(uF BK266.out 0).trans rfl, (uF BK266.out 1).trans rfl, (uF BK266.out 2).trans rfl, hx268_0, hx268_1, hx268_2⟩ (fun hHeld => ?_); refine with_tabW laws_FnCandidates.tab7 laws_FnCandidates.bits7 (fun HT_ HW_ => ?_)
          generalize w23.drew = w24 at HO257 HO261 BK266 HB HO257 HO261 hx268_0 hx268_1 hx268_2 hHeld ⊢
          refine pu 0 (some 32) #[T,F,F,F,F,F,F,F,F,F,F,F,F,F,F,F,F,F,F,F,F,F,F,F,F,F,F,F,F,F,F,F,F,F,F,F,F,F] HT_ ?_
          refine pu 1 (some 33) #[T,T,F,F,F,F,F,F,F,F,F,F,F,F,F,F,F,F,F,F,F,F,F,F,F,F,F,F,F,F,F,F,F,F,F,F,F,F] HT_ ?_
          refine pu 2 (some 34) #[T,T,T,F,F,F,F,F,F,F,F,F,F,F,F,F,F,F,F,F,F,F,F,F,F,F,F,F,F,F,F,F,F,F,F,F,F,F] HT_ ?_
          refine pu 3 (some 35) #[T,T,T,T,F,F,F,F,F,F,F,F,F,F,F,F,F,F,F,F,F,F,F,F,F,F,F,F,F,F,F,F,F,F,F,F,F,F] HT_ ?_
          refine pu 4 (some 36) #[T,T,T,T,T,F,F,F,F,F,F,F,F,F,F,F,F,F,F,F,F,F,F,F,F,F,F,F,F,F,F,F,F,F,F,F,F,F] HT_ ?_
          refine pu 5 (some 37) #[T,T,T,T,T,T,F,F,F,F,F,F,F,F,F,F,F,F,F,F,F,F,F,F,F,F,F,F,F,F,F,F,F,F,F,F,F,F] HT_ ?_
          refine one_ (i := 6) (N := some 38) #[T,T,T,T,T,T,T,F,F,F,F,F,F,F,F,F,F,F,F,F,F,F,F,F,F,F,F,F,F,F,F,F,F,F,F,F,F,F] rfl rfl (one_of HT_.out (by kernel_rfl)) (by decide) (fun K hK => ?_)
          refine goes_ Tryd.func27 (by kernel_rfl) rfl #[.slice Ao25 t254.length co25, .slice (some ad268) t258.length co26] (by rfl) rfl rfl (by (try simp only [List.map_toArray, List.map_cons, List.map_nil]); first | done | rfl | (simp only [List.length_drop, List.length_take]; rfl)) ?_
          with_reducible refine (laws_sameTags.calls k _ _ t254 _ _ t258 true _ ?side1 ?side2 ?side3 ?side4 A16.out).mono ?_
          (case side1 => exact pc ((Kd.R_reads' HO257.out).2.2))
          (case side2 => exact (Kd.R_reads' HO257.out).2.1)
          (case side3 => exact pc ((Kd.R_reads' HO261.out).2.2))
          (case side4 => exact (Kd.R_reads' HO261.out).2.1)
          rintro e w' ⟨rfl, ⟨nd, rfl⟩⟩
          refine ⟨_, rfl, ?_⟩
          refine hK.out _ _ ⟨(uF BK266.out 0).trans rfl, (uF BK266.out 1).trans rfl, (uF BK266.out 2).trans rfl, hHeld.2.2.2.1, hHeld.2.2.2.2.1, hHeld.2.2.2.2.2⟩ (fun hHeld => ?_)
          clear hK K
          refine norm_ (a' := ?_) ?_ ?_
          rotate_left
          ·show uc _ (some 38) _ = _
           simp only [uc, uA, uB, uC, uZ, ua]
           rfl
          refine pu 7 (some 39) #[T,T,T,T,T,T,T,T,F,F,F,F,F,F,F,F,F,F,F,F,F,F,F,F,F,F,F,F,F,F,F,F,F,F,F,F,F,F] HT_ ?_
          refine pu 8 (some 40) #[T,T,T,T,T,T,T,T,T,F,F,F,F,F,F,F,F,F,F,F,F,F,F,F,F,F,F,F,F,F,F,F,F,F,F,F,F,F] HT_ ?_
          refine pu 9 (some 41) #[T,T,T,T,T,T,T,T,T,T,F,F,F,F,F,F,F,F,F,F,F,F,F,F,F,F,F,F,F,F,F,F,F,F,F,F,F,F] HT_ ?_
          refine pu 10 (some 42) #[T,T,T,T,T,T,T,T,T,T,T,F,F,F,F,F,F,F,F,F,F,F,F,F,F,F,F,F,F,F,F,F,F,F,F,F,F,F] HT_ ?_
          refine pu 11 (some 43) #[T,T,T,T,T,T,T,T,T,T,T,T,F,F,F,F,F,F,F,F,F,F,F,F,F,F,F,F,F,F,F,F,F,F,F,F,F,F] HT_ ?_
          refine pu 12 (some 44) #[T,T,T,T,T,T,T,T,T,T,T,T,T,F,F,F,F,F,F,F,F,F,F,F,F,F,F,F,F,F,F,F,F,F,F,F,F,F] HT_ ?_
          refine pu 13 (some 45) #[T,T,T,T,T,T,T,T,T,T,T,T,T,T,F,F,F,F,F,F,F,F,F,F,F,F,F,F,F,F,F,F,F,F,F,F,F,F] HT_ ?_
          refine pu 14 (some 46) #[T,T,T,T,T,T,T,T,T,T,T,T,T,T,T,F,F,F,F,F,F,F,F,F,F,F,F,F,F,F,F,F,F,F,F,F,F,F] HT_ ?_
          refine pu 15 (some 47) #[T,T,T,T,T,T,T,T,T,T,T,T,T,T,T,T,F,F,F,F,F,F,F,F,F,F,F,F,F,F,F,F,F,F,F,F,F,F] HT_ ?_
          refine pu 16 (some 48) #[T,T,T,T,T,T,T,T,T,T,T,T,T,T,T,T,T,F,F,F,F,F,F,F,F,F,F,F,F,F,F,F,F,F,F,F,F,F] HT_ ?_
          refine pu 17 (some 49) #[T,T,T,T,T,T,T,T,T,T,T,T,T,T,T,T,T,T,F,F,F,F,F,F,F,F,F,F,F,F,F,F,F,F,F,F,F,F] HT_ ?_
          refine pu 18 (some 50) #[T,T,T,T,T,T,T,T,T,T,T,T,T,T,T,T,T,T,T,F,F,F,F,F,F,F,F,F,F,F,F,F,F,F,F,F,F,F] HT_ ?_
          refine pu 19 (some 51) #[T,T,T,T,T,T,T,T,T,T,T,T,T,T,T,T,T,T,T,T,F,F,F,F,F,F,F,F,F,F,F,F,F,F,F,F,F,F] HT_ ?_
          refine pu 20 (some 52) #[T,T,T,T,T,T,T,T,T,T,T,T,T,T,T,T,T,T,T,T,T,F,F,F,F,F,F,F,F,F,F,F,F,F,F,F,F,F] HT_ ?_
          refine pu 21 (some 53) #[T,T,T,T,T,T,T,T,T,T,T,T,T,T,T,T,T,T,T,T,T,T,F,F,F,F,F,F,F,F,F,F,F,F,F,F,F,F] HT_ ?_
          refine pu 23 (some 55) #[T,T,T,T,T,T,T,T,T,T,T,T,T,T,T,T,T,T,T,T,T,T,F,T,F,F,F,F,F,F,F,F,F,F,F,F,F,F] HT_ ?_
          refine pu 24 (some 56) #[T,T,T,T,T,T,T,T,T,T,T,T,T,T,T,T,T,T,T,T,T,T,F,T,T,F,F,F,F,F,F,F,F,F,F,F,F,F] HT_ ?_
          refine tk 22 (some 54) #[T,T,T,T,T,T,T,T,T,T,T,T,T,T,T,T,T,T,T,T,T,T,T,T,T,F,F,F,F,F,F,F,F,F,F,F,F,F] HT_ HW_ hHeld ?_
          refine tk 25 (some 57) #[T,T,T,T,T,T,T,T,T,T,T,T,T,T,T,T,T,T,T,T,T,T,T,T,T,T,F,F,F,F,F,F,F,F,F,F,F,F] HT_ HW_ hHeld ?_
          refine pu 26 (some 58) #[T,T,T,T,T,T,T,T,T,T,T,T,T,T,T,T,T,T,T,T,T,T,T,T,T,T,T,F,F,F,F,F,F,F,F,F,F,F] HT_ ?_
          refine pu 27 (some 59) #[T,T,T,T,T,T,T,T,T,T,T,T,T,T,T,T,T,T,T,T,T,T,T,T,T,T,T,T,F,F,F,F,F,F,F,F,F,F] HT_ ?_
          refine pu 28 (some 60) #[T,T,T,T,T,T,T,T,T,T,T,T,T,T,T,T,T,T,T,T,T,T,T,T,T,T,T,T,T,F,F,F,F,F,F,F,F,F] HT_ ?_
          refine pu 29 (some 61) #[T,T,T,T,T,T,T,T,T,T,T,T,T,T,T,T,T,T,T,T,T,T,T,T,T,T,T,T,T,T,F,F,F,F,F,F,F,F] HT_ ?_
          refine pu 30 (some 62) #[T,T,T,T,T,T,T,T,T,T,T,T,T,T,T,T,T,T,T,T,T,T,T,T,T,T,T,T,T,T,T,F,F,F,F,F,F,F] HT_ ?_
          refine pu 31 (some 63) #[T,T,T,T,T,T,T,T,T,T,T,T,T,T,T,T,T,T,T,T,T,T,T,T,T,T,T,T,T,T,T,T,F,F,F,F,F,F] HT_ ?_
          refine pu 32 (some 64) #[T,T,T,T,T,T,T,T,T,T,T,T,T,T,T,T,T,T,T,T,T,T,T,T,T,T,T,T,T,T,T,T,T,F,F,F,F,F] HT_ ?_
          refine ub (i := 33) (N := some 65) (v := undef) (a' := ?_) #[T,T,T,T,T,T,T,T,T,T,T,T,T,T,T,T,T,T,T,T,T,T,T,T,T,T,T,T,T,T,T,T,T,T,F,F,F,F] rfl rfl (uY HT_.out (by kernel_rfl)) (fun _ _ _ h => h) (Or.inr ⟨by rfl, rfl⟩) ?_ ?_
          rotate_left
          ·simp only [uc, uA, uB, uC, uZ, ua]
           rfl
          refine ub (i := 34) (N := some 66) (v := undef) (a' := ?_) #[T,T,T,T,T,T,T,T,T,T,T,T,T,T,T,T,T,T,T,T,T,T,T,T,T,T,T,T,T,T,T,T,T,T,T,F,F,F] rfl rfl (uY HT_.out (by kernel_rfl)) (fun _ _ _ h => h) (Or.inr ⟨by rfl, rfl⟩) ?_ ?_
          rotate_left
          ·simp only [uc, uA, uB, uC, uZ, ua]
           rfl
          refine ub (i := 35) (N := some 67) (v := undef) (a' := ?_) #[T,T,T,T,T,T,T,T,T,T,T,T,T,T,T,T,T,T,T,T,T,T,T,T,T,T,T,T,T,T,T,T,T,T,T,T,F,F] rfl rfl (uY HT_.out (by kernel_rfl)) (fun _ _ _ h => h) (Or.inr ⟨by rfl, rfl⟩) ?_ ?_
          rotate_left
          ·simp only [uc, uA, uB, uC, uZ, ua]
           rfl
          refine pu 36 (some 68) #[T,T,T,T,T,T,T,T,T,T,T,T,T,T,T,T,T,T,T,T,T,T,T,T,T,T,T,T,T,T,T,T,T,T,T,T,T,F] HT_ ?_
          refine pu 37 (some 69) #[T,T,T,T,T,T,T,T,T,T,T,T,T,T,T,T,T,T,T,T,T,T,T,T,T,T,T,T,T,T,T,T,T,T,T,T,T,T] HT_ ?_
          refine done_ (done_of HT_.out (by kernel_rfl)) ?_
          try go_wp2
          go_meet
          case rel => exact ⟨_, (false), (by first | rfl | (simp; done) | (simp [*]; done)), H', ⟨by first | omega | exact Nat.le_refl _⟩, ⟨by (with_reducible repeat (first | apply uU | apply uS | apply uT)); exact uX HO257.out (fun _ hk => hk.2)⟩, ⟨by (with_reducible repeat first|apply uH|apply uJ|apply uG); exact BK266.out⟩, ⟨pb HB⟩⟩
        ·rw [if_neg c21] at H
         exact absurd H (by simp)
       ·replace c20 := Bool.eq_false_iff.mpr c20
        subst c20
        have H1 : (laws_FnCandidates.j0 k t253 t254 (!(t262 == 0) || (!(t263 == 0) || (!(t264 == 0))))) = some true := by rw [if_neg (show ¬ (false = true) by decide)] at H; first | done | exact H
        clear H
        have H := H1
        clear H1
        have H' := uD H
        clear H
        try go_wp2
        have n0_ : Aside0 (Kd.R k25 25 (((w13.setCell ⟨gb266, 0, none⟩ (.int .i64 t262)).setCell ⟨gb266, 1, none⟩ (.int .i64 t263)).setCell ⟨gb266, 2, none⟩ (.int .i64 t264)) w.heap.size (fun k_ => some k_ ≠ (v260 : Value).ownBlock ∧ k_ ≠ gb266) v256 t254) := ⟨by (with_reducible repeat (first | apply uU | apply uS | apply uT)); exact uX (uV (p := ⟨gb266, 2, none⟩) (uV (p := ⟨gb266, 1, none⟩) (uV (p := ⟨gb266, 0, none⟩) (uX HO257.out (fun k_ hk => (⟨hk, hk.2⟩ : _ ∧ k_ ≠ gb266))) (fun _ hk => hk.2) (.int .i64 t262)) (fun _ hk => hk.2) (.int .i64 t263)) (fun _ hk => hk.2) (.int .i64 t264)) (fun _ hk => ⟨hk.1.1.2, hk.1.2⟩)⟩
        have n1_ : Aside0 (Kd.R k25 25 (((w13.setCell ⟨gb266, 0, none⟩ (.int .i64 t262)).setCell ⟨gb266, 1, none⟩ (.int .i64 t263)).setCell ⟨gb266, 2, none⟩ (.int .i64 t264)) w.heap.size (fun k_ => some k_ ≠ (v256 : Value).ownBlock ∧ k_ ≠ gb266) v260 t258) := ⟨by (with_reducible repeat (first | apply uU | apply uS | apply uT)); exact uX (uV (p := ⟨gb266, 2, none⟩) (uV (p := ⟨gb266, 1, none⟩) (uV (p := ⟨gb266, 0, none⟩) (uX HO261.out (fun k_ hk => (⟨hk, hk.2⟩ : _ ∧ k_ ≠ gb266))) (fun _ hk => hk.2) (.int .i64 t262)) (fun _ hk => hk.2) (.int .i64 t263)) (fun _ hk => hk.2) (.int .i64 t264)) (fun _ hk => ⟨hk.1.1.2, hk.1.2⟩)⟩
        have n2_ : Aside0 ((((w13.setCell ⟨gb266, 0, none⟩ (.int .i64 t262)).setCell ⟨gb266, 1, none⟩ (.int .i64 t263)).setCell ⟨gb266, 2, none⟩ (.int .i64 t264)).heap[gb266]? = some (.cells #[.int .i64 t262, .int .i64 t263, .int .i64 t264] 25 (0, 0))) := ⟨by (with_reducible repeat first|apply uH|apply uJ|apply uG); refine uP (cs := #[.int .i64 t262, .int .i64 t263, .int .i64 0]) ?_ 2 _ rfl; (with_reducible repeat first|apply uH|apply uJ|apply uG); refine uP (cs := #[.int .i64 t262, .int .i64 0, .int .i64 0]) ?_ 1 _ rfl; (with_reducible repeat first|apply uH|apply uJ|apply uG); refine uP (cs := #[.int .i64 0, .int .i64 0, .int .i64 0]) ?_ 0 _ rfl; (with_reducible repeat first|apply uH|apply uJ|apply uG); exact BK266.out⟩
        have n3_ : Aside0 (Below w.heap.size w (((w13.setCell ⟨gb266, 0, none⟩ (.int .i64 t262)).setCell ⟨gb266, 1, none⟩ (.int .i64 t263)).setCell ⟨gb266, 2, none⟩ (.int .i64 t264))) := ⟨pb HB⟩
        (try clear HO257)
        (try clear HO261)
        (try clear BK266)
        (try clear HB)
        generalize (((w13.setCell ⟨gb266, 0, none⟩ (.int .i64 t262)).setCell ⟨gb266, 1, none⟩ (.int .i64 t263)).setCell ⟨gb266, 2, none⟩ (.int .i64 t264)) = w27 at n0_ n1_ n2_ n3_ ⊢
        have HO257 := n0_
        have HO261 := n1_
        have BK266 := n2_
        have HB := n3_
        clear n0_ n1_ n2_ n3_
        replace HO257 := uD (uT HO257.out)
        replace HO261 := uD (uT HO261.out)
        replace BK266 := uD (uJ BK266.out)
        replace HB := uD (uK HB.out)
        obtain ⟨Ao29, co29, eo29⟩ := Kd.R_slice HO257.out
        (first | subst eo29 | (injection eo29 with f1_ f2_ f3_; have f4_ := f1_.symm; have f5_ := f3_.symm; clear f1_ f2_ f3_; subst f4_; subst f5_))
        obtain ⟨Ao30, co30, eo30⟩ := Kd.R_slice HO261.out
        (first | subst eo30 | (injection eo30 with f1_ f2_ f3_; have f4_ := f1_.symm; have f5_ := f3_.symm; clear f1_ f2_ f3_; subst f4_; subst f5_))
        refine start_ (n := 38) (S := fun w' => w'.cell? ⟨gb266, 0, none⟩ = some (.int .i64 t262) ∧ w'.cell? ⟨gb266, 1, none⟩ = some (.int .i64 t263) ∧ w'.cell? ⟨gb266, 2, none⟩ = some (.int .i64 t264)) (ds := []) #[F,F,F,F,F,F,F,F,F,F,F,F,F,F,F,F,F,F,F,F,F,F,F,F,F,F,F,F,F,F,F,F,F,F,F,F,F,F] (by kernel_rfl) rfl rfl ⟨(uF BK266.out 0).trans rfl, (uF BK266.out 1).trans rfl, (uF BK266.out 2).trans rfl⟩ (fun hHeld => ?_); refine with_tabW laws_FnCandidates.tab7 laws_FnCandidates.bits7 (fun HT_ HW_ => ?_)
        generalize w27.drew = w28 at HO257 HO261 BK266 HB HO257 HO261 hHeld ⊢
        refine pu 0 (some 32) #[T,F,F,F,F,F,F,F,F,F,F,F,F,F,F,F,F,F,F,F,F,F,F,F,F,F,F,F,F,F,F,F,F,F,F,F,F,F] HT_ ?_
        refine pu 1 (some 33) #[T,T,F,F,F,F,F,F,F,F,F,F,F,F,F,F,F,F,F,F,F,F,F,F,F,F,F,F,F,F,F,F,F,F,F,F,F,F] HT_ ?_
        refine pu 2 (some 34) #[T,T,T,F,F,F,F,F,F,F,F,F,F,F,F,F,F,F,F,F,F,F,F,F,F,F,F,F,F,F,F,F,F,F,F,F,F,F] HT_ ?_
        refine pu 3 (some 35) #[T,T,T,T,F,F,F,F,F,F,F,F,F,F,F,F,F,F,F,F,F,F,F,F,F,F,F,F,F,F,F,F,F,F,F,F,F,F] HT_ ?_
        refine pu 4 (some 36) #[T,T,T,T,T,F,F,F,F,F,F,F,F,F,F,F,F,F,F,F,F,F,F,F,F,F,F,F,F,F,F,F,F,F,F,F,F,F] HT_ ?_
        refine pu 5 (some 37) #[T,T,T,T,T,T,F,F,F,F,F,F,F,F,F,F,F,F,F,F,F,F,F,F,F,F,F,F,F,F,F,F,F,F,F,F,F,F] HT_ ?_
        refine one_ (i := 6) (N := some 38) #[T,T,T,T,T,T,T,F,F,F,F,F,F,F,F,F,F,F,F,F,F,F,F,F,F,F,F,F,F,F,F,F,F,F,F,F,F,F] rfl rfl (one_of HT_.out (by kernel_rfl)) (by decide) (fun K hK => ?_)
        refine goes_ Tryd.func27 (by kernel_rfl) rfl #[.slice Ao29 t254.length co29, .slice Ao30 t258.length co30] (by rfl) rfl rfl (by (try simp only [List.map_toArray, List.map_cons, List.map_nil]); first | done | rfl | (simp only [List.length_drop, List.length_take]; rfl)) ?_
        with_reducible refine (laws_sameTags.calls k _ _ t254 _ _ t258 true _ ?side1 ?side2 ?side3 ?side4 A16.out).mono ?_
        (case side1 => exact pc ((Kd.R_reads' HO257.out).2.2))
        (case side2 => exact (Kd.R_reads' HO257.out).2.1)
        (case side3 => exact pc ((Kd.R_reads' HO261.out).2.2))
        (case side4 => exact (Kd.R_reads' HO261.out).2.1)
        rintro e w' ⟨rfl, ⟨nd, rfl⟩⟩
        refine ⟨_, rfl, ?_⟩
        refine hK.out _ _ ⟨(uF BK266.out 0).trans rfl, (uF BK266.out 1).trans rfl, (uF BK266.out 2).trans rfl⟩ (fun hHeld => ?_)
        clear hK K
        refine norm_ (a' := ?_) ?_ ?_
        rotate_left
        ·show uc _ (some 38) _ = _
         simp only [uc, uA, uB, uC, uZ, ua]
         rfl
        refine pu 7 (some 39) #[T,T,T,T,T,T,T,T,F,F,F,F,F,F,F,F,F,F,F,F,F,F,F,F,F,F,F,F,F,F,F,F,F,F,F,F,F,F] HT_ ?_
        refine pu 8 (some 40) #[T,T,T,T,T,T,T,T,T,F,F,F,F,F,F,F,F,F,F,F,F,F,F,F,F,F,F,F,F,F,F,F,F,F,F,F,F,F] HT_ ?_
        refine pu 9 (some 41) #[T,T,T,T,T,T,T,T,T,T,F,F,F,F,F,F,F,F,F,F,F,F,F,F,F,F,F,F,F,F,F,F,F,F,F,F,F,F] HT_ ?_
        refine pu 10 (some 42) #[T,T,T,T,T,T,T,T,T,T,T,F,F,F,F,F,F,F,F,F,F,F,F,F,F,F,F,F,F,F,F,F,F,F,F,F,F,F] HT_ ?_
        refine pu 11 (some 43) #[T,T,T,T,T,T,T,T,T,T,T,T,F,F,F,F,F,F,F,F,F,F,F,F,F,F,F,F,F,F,F,F,F,F,F,F,F,F] HT_ ?_
        refine pu 12 (some 44) #[T,T,T,T,T,T,T,T,T,T,T,T,T,F,F,F,F,F,F,F,F,F,F,F,F,F,F,F,F,F,F,F,F,F,F,F,F,F] HT_ ?_
        refine pu 13 (some 45) #[T,T,T,T,T,T,T,T,T,T,T,T,T,T,F,F,F,F,F,F,F,F,F,F,F,F,F,F,F,F,F,F,F,F,F,F,F,F] HT_ ?_
        refine pu 14 (some 46) #[T,T,T,T,T,T,T,T,T,T,T,T,T,T,T,F,F,F,F,F,F,F,F,F,F,F,F,F,F,F,F,F,F,F,F,F,F,F] HT_ ?_
        refine pu 15 (some 47) #[T,T,T,T,T,T,T,T,T,T,T,T,T,T,T,T,F,F,F,F,F,F,F,F,F,F,F,F,F,F,F,F,F,F,F,F,F,F] HT_ ?_
        refine pu 16 (some 48) #[T,T,T,T,T,T,T,T,T,T,T,T,T,T,T,T,T,F,F,F,F,F,F,F,F,F,F,F,F,F,F,F,F,F,F,F,F,F] HT_ ?_
        refine pu 17 (some 49) #[T,T,T,T,T,T,T,T,T,T,T,T,T,T,T,T,T,T,F,F,F,F,F,F,F,F,F,F,F,F,F,F,F,F,F,F,F,F] HT_ ?_
        refine pu 18 (some 50) #[T,T,T,T,T,T,T,T,T,T,T,T,T,T,T,T,T,T,T,F,F,F,F,F,F,F,F,F,F,F,F,F,F,F,F,F,F,F] HT_ ?_
        refine pu 19 (some 51) #[T,T,T,T,T,T,T,T,T,T,T,T,T,T,T,T,T,T,T,T,F,F,F,F,F,F,F,F,F,F,F,F,F,F,F,F,F,F] HT_ ?_
        refine pu 20 (some 52) #[T,T,T,T,T,T,T,T,T,T,T,T,T,T,T,T,T,T,T,T,T,F,F,F,F,F,F,F,F,F,F,F,F,F,F,F,F,F] HT_ ?_
        refine pu 21 (some 53) #[T,T,T,T,T,T,T,T,T,T,T,T,T,T,T,T,T,T,T,T,T,T,F,F,F,F,F,F,F,F,F,F,F,F,F,F,F,F] HT_ ?_
        refine ub (i := 22) (N := some 54) (v := undef) (a' := ?_) #[T,T,T,T,T,T,T,T,T,T,T,T,T,T,T,T,T,T,T,T,T,T,T,F,F,F,F,F,F,F,F,F,F,F,F,F,F,F] rfl rfl (uY HT_.out (by kernel_rfl)) (fun _ _ _ h => h) (Or.inr ⟨by rfl, rfl⟩) ?_ ?_
        rotate_left
        ·simp only [uc, uA, uB, uC, uZ, ua]
         rfl
        refine ub (i := 23) (N := some 55) (v := undef) (a' := ?_) #[T,T,T,T,T,T,T,T,T,T,T,T,T,T,T,T,T,T,T,T,T,T,T,T,F,F,F,F,F,F,F,F,F,F,F,F,F,F] rfl rfl (uY HT_.out (by kernel_rfl)) (fun _ _ _ h => h) (Or.inr ⟨by rfl, rfl⟩) ?_ ?_
        rotate_left
        ·simp only [uc, uA, uB, uC, uZ, ua]
         rfl
        refine ub (i := 24) (N := some 56) (v := undef) (a' := ?_) #[T,T,T,T,T,T,T,T,T,T,T,T,T,T,T,T,T,T,T,T,T,T,T,T,T,F,F,F,F,F,F,F,F,F,F,F,F,F] rfl rfl (uY HT_.out (by kernel_rfl)) (fun _ _ _ h => h) (Or.inr ⟨by rfl, rfl⟩) ?_ ?_
        rotate_left
        ·simp only [uc, uA, uB, uC, uZ, ua]
         rfl
        refine ub (i := 25) (N := some 57) (v := undef) (a' := ?_) #[T,T,T,T,T,T,T,T,T,T,T,T,T,T,T,T,T,T,T,T,T,T,T,T,T,T,F,F,F,F,F,F,F,F,F,F,F,F] rfl rfl (uY HT_.out (by kernel_rfl)) (fun _ _ _ h => h) (Or.inr ⟨by rfl, rfl⟩) ?_ ?_
        rotate_left
        ·simp only [uc, uA, uB, uC, uZ, ua]
         rfl
        refine ub (i := 26) (N := some 58) (v := undef) (a' := ?_) #[T,T,T,T,T,T,T,T,T,T,T,T,T,T,T,T,T,T,T,T,T,T,T,T,T,T,T,F,F,F,F,F,F,F,F,F,F,F] rfl rfl (uY HT_.out (by kernel_rfl)) (fun _ _ _ h => h) (Or.inr ⟨by rfl, rfl⟩) ?_ ?_
        rotate_left
        ·simp only [uc, uA, uB, uC, uZ, ua]
         rfl
        refine pu 27 (some 59) #[T,T,T,T,T,T,T,T,T,T,T,T,T,T,T,T,T,T,T,T,T,T,T,T,T,T,T,T,F,F,F,F,F,F,F,F,F,F] HT_ ?_
        refine pu 28 (some 60) #[T,T,T,T,T,T,T,T,T,T,T,T,T,T,T,T,T,T,T,T,T,T,T,T,T,T,T,T,T,F,F,F,F,F,F,F,F,F] HT_ ?_
        refine pu 29 (some 61) #[T,T,T,T,T,T,T,T,T,T,T,T,T,T,T,T,T,T,T,T,T,T,T,T,T,T,T,T,T,T,F,F,F,F,F,F,F,F] HT_ ?_
        refine pu 30 (some 62) #[T,T,T,T,T,T,T,T,T,T,T,T,T,T,T,T,T,T,T,T,T,T,T,T,T,T,T,T,T,T,T,F,F,F,F,F,F,F] HT_ ?_
        refine pu 31 (some 63) #[T,T,T,T,T,T,T,T,T,T,T,T,T,T,T,T,T,T,T,T,T,T,T,T,T,T,T,T,T,T,T,T,F,F,F,F,F,F] HT_ ?_
        refine pu 32 (some 64) #[T,T,T,T,T,T,T,T,T,T,T,T,T,T,T,T,T,T,T,T,T,T,T,T,T,T,T,T,T,T,T,T,T,F,F,F,F,F] HT_ ?_
        refine pu 34 (some 66) #[T,T,T,T,T,T,T,T,T,T,T,T,T,T,T,T,T,T,T,T,T,T,T,T,T,T,T,T,T,T,T,T,T,F,T,F,F,F] HT_ ?_
        refine tk 33 (some 65) #[T,T,T,T,T,T,T,T,T,T,T,T,T,T,T,T,T,T,T,T,T,T,T,T,T,T,T,T,T,T,T,T,T,T,T,F,F,F] HT_ HW_ hHeld ?_
        refine pu 35 (some 67) #[T,T,T,T,T,T,T,T,T,T,T,T,T,T,T,T,T,T,T,T,T,T,T,T,T,T,T,T,T,T,T,T,T,T,T,T,F,F] HT_ ?_
        refine pu 36 (some 68) #[T,T,T,T,T,T,T,T,T,T,T,T,T,T,T,T,T,T,T,T,T,T,T,T,T,T,T,T,T,T,T,T,T,T,T,T,T,F] HT_ ?_
        refine pu 37 (some 69) #[T,T,T,T,T,T,T,T,T,T,T,T,T,T,T,T,T,T,T,T,T,T,T,T,T,T,T,T,T,T,T,T,T,T,T,T,T,T] HT_ ?_
        refine done_ (done_of HT_.out (by kernel_rfl)) ?_
        try go_wp2
        go_meet
        case rel => exact ⟨_, ((!(t262 == 0) || (!(t263 == 0) || (!(t264 == 0))))), (by first | rfl | (simp; done) | (simp [*]; done)), H', ⟨by first | omega | exact Nat.le_refl _⟩, ⟨by (with_reducible repeat (first | apply uU | apply uS | apply uT)); exact uX HO257.out (fun _ hk => hk.2)⟩, ⟨by (with_reducible repeat first|apply uH|apply uJ|apply uG); exact BK266.out⟩, ⟨pb HB⟩⟩
     ·replace c18 := Bool.eq_false_iff.mpr c18
      subst c18
      have H1 : (if (t265 != false) = true then (laws_FnCandidates.j0 k t253 t254 true) else (if t265 = true then (if 0 < (t258.length : Int) then (if (!(t262 == ((rd_T25 t258 0).f0)) || (!(t263 == ((rd_T25 t258 0).f1)) || (!(t264 == ((rd_T25 t258 0).f2))))) = true then (laws_FnCandidates.j0 k t253 t254 true) else (laws_FnCandidates.j0 k t253 t254 false)) else (none)) else (laws_FnCandidates.j0 k t253 t254 (!(t262 == 0) || (!(t263 == 0) || (!(t264 == 0))))))) = some true := by rw [if_neg (show ¬ (false = true) by decide)] at H; first | done | exact H
      clear H
      have H := H1
      clear H1
      by_cases c31 : (t265 != false) = true
      ·rw [if_pos c31] at H
       have c31b0 : (t265 != false) = true := c31
       (try (have c31b1 : decide (t265 = false) = false := by simpa using c31))
       (try (have c31b2 : (t265 == false) = false := by simpa using c31))
       (try (have c31b3 : ¬ (t265 = false) := by simpa using c31))
       clear c31
       exact absurd H (by cases k <;> simp [laws_FnCandidates.j0])
      ·rw [if_neg c31] at H
       have c31b0 : (t265 != false) = false := by simpa using c31
       (try (have c31b1 : decide (t265 = false) = true := by simpa using c31))
       (try (have c31b2 : (t265 == false) = true := by simpa using c31))
       clear c31
       by_cases c32 : t265 = true
       ·subst c32
        have H1 : (if 0 < (t258.length : Int) then (if (!(t262 == ((rd_T25 t258 0).f0)) || (!(t263 == ((rd_T25 t258 0).f1)) || (!(t264 == ((rd_T25 t258 0).f2))))) = true then (laws_FnCandidates.j0 k t253 t254 true) else (laws_FnCandidates.j0 k t253 t254 false)) else (none)) = some true := by rw [if_pos rfl] at H; first | done | exact H
        clear H
        have H := H1
        clear H1
        by_cases c33 : 0 < (t258.length : Int)
        ·rw [if_pos c33] at H
         have c33b0 : decide (0 < (t258.length : Int)) = true := decide_eq_true c33
         have c33b1 : decide (0 < t258.length) = true := decide_eq_true (by omega)
         clear c33
         by_cases c34 : (!(t262 == ((rd_T25 t258 0).f0)) || (!(t263 == ((rd_T25 t258 0).f1)) || (!(t264 == ((rd_T25 t258 0).f2))))) = true
         ·rw [if_pos c34] at H
          have c34b0 : (!(t262 == ((rd_T25 t258 0).f0)) || (!(t263 == ((rd_T25 t258 0).f1)) || (!(t264 == ((rd_T25 t258 0).f2))))) = true := c34
          clear c34
          exact absurd H (by cases k <;> simp [laws_FnCandidates.j0])
         ·rw [if_neg c34] at H
          have c34b0 : (!(t262 == ((rd_T25 t258 0).f0)) || (!(t263 == ((rd_T25 t258 0).f1)) || (!(t264 == ((rd_T25 t258 0).f2))))) = false := by simpa using c34
          clear c34
          have H' := uD H
          clear H
          try go_wp2
          have n0_ : Aside0 (Kd.R k25 25 (((w13.setCell ⟨gb266, 0, none⟩ (.int .i64 t262)).setCell ⟨gb266, 1, none⟩ (.int .i64 t263)).setCell ⟨gb266, 2, none⟩ (.int .i64 t264)) w.heap.size (fun k_ => some k_ ≠ (v260 : Value).ownBlock ∧ k_ ≠ gb266) v256 t254) := ⟨by (with_reducible repeat (first | apply uU | apply uS | apply uT)); exact uX (uV (p := ⟨gb266, 2, none⟩) (uV (p := ⟨gb266, 1, none⟩) (uV (p := ⟨gb266, 0, none⟩) (uX HO257.out (fun k_ hk => (⟨hk, hk.2⟩ : _ ∧ k_ ≠ gb266))) (fun _ hk => hk.2) (.int .i64 t262)) (fun _ hk => hk.2) (.int .i64 t263)) (fun _ hk => hk.2) (.int .i64 t264)) (fun _ hk => ⟨hk.1.1.2, hk.1.2⟩)⟩
          have n1_ : Aside0 (Kd.R k25 25 (((w13.setCell ⟨gb266, 0, none⟩ (.int .i64 t262)).setCell ⟨gb266, 1, none⟩ (.int .i64 t263)).setCell ⟨gb266, 2, none⟩ (.int .i64 t264)) w.heap.size (fun k_ => some k_ ≠ (v256 : Value).ownBlock ∧ k_ ≠ gb266) v260 t258) := ⟨by (with_reducible repeat (first | apply uU | apply uS | apply uT)); exact uX (uV (p := ⟨gb266, 2, none⟩) (uV (p := ⟨gb266, 1, none⟩) (uV (p := ⟨gb266, 0, none⟩) (uX HO261.out (fun k_ hk => (⟨hk, hk.2⟩ : _ ∧ k_ ≠ gb266))) (fun _ hk => hk.2) (.int .i64 t262)) (fun _ hk => hk.2) (.int .i64 t263)) (fun _ hk => hk.2) (.int .i64 t264)) (fun _ hk => ⟨hk.1.1.2, hk.1.2⟩)⟩
          have n2_ : Aside0 ((((w13.setCell ⟨gb266, 0, none⟩ (.int .i64 t262)).setCell ⟨gb266, 1, none⟩ (.int .i64 t263)).setCell ⟨gb266, 2, none⟩ (.int .i64 t264)).heap[gb266]? = some (.cells #[.int .i64 t262, .int .i64 t263, .int .i64 t264] 25 (0, 0))) := ⟨by (with_reducible repeat first|apply uH|apply uJ|apply uG); refine uP (cs := #[.int .i64 t262, .int .i64 t263, .int .i64 0]) ?_ 2 _ rfl; (with_reducible repeat first|apply uH|apply uJ|apply uG); refine uP (cs := #[.int .i64 t262, .int .i64 0, .int .i64 0]) ?_ 1 _ rfl; (with_reducible repeat first|apply uH|apply uJ|apply uG); refine uP (cs := #[.int .i64 0, .int .i64 0, .int .i64 0]) ?_ 0 _ rfl; (with_reducible repeat first|apply uH|apply uJ|apply uG); exact BK266.out⟩
          have n3_ : Aside0 (Below w.heap.size w (((w13.setCell ⟨gb266, 0, none⟩ (.int .i64 t262)).setCell ⟨gb266, 1, none⟩ (.int .i64 t263)).setCell ⟨gb266, 2, none⟩ (.int .i64 t264))) := ⟨pb HB⟩
          (try clear HO257)
          (try clear HO261)
          (try clear BK266)
          (try clear HB)
          generalize (((w13.setCell ⟨gb266, 0, none⟩ (.int .i64 t262)).setCell ⟨gb266, 1, none⟩ (.int .i64 t263)).setCell ⟨gb266, 2, none⟩ (.int .i64 t264)) = w35 at n0_ n1_ n2_ n3_ ⊢
          have HO257 := n0_
          have HO261 := n1_
          have BK266 := n2_
          have HB := n3_
          clear n0_ n1_ n2_ n3_
          replace HO257 := uD (uT HO257.out)
          replace HO261 := uD (uT HO261.out)
          replace BK266 := uD (uJ BK266.out)
          replace HB := uD (uK HB.out)
          obtain ⟨Ao37, co37, eo37⟩ := Kd.R_slice HO257.out
          (first | subst eo37 | (injection eo37 with f1_ f2_ f3_; have f4_ := f1_.symm; have f5_ := f3_.symm; clear f1_ f2_ f3_; subst f4_; subst f5_))
          obtain ⟨Ao38, co38, eo38⟩ := Kd.R_slice HO261.out
          (first | subst eo38 | (injection eo38 with f1_ f2_ f3_; have f4_ := f1_.symm; have f5_ := f3_.symm; clear f1_ f2_ f3_; subst f4_; subst f5_))
          have p269 : 0 ≤ (0 : Int) := (by omega)
          have q269 : 0 < (t258.length : Int) := of_decide_eq_true (by first | (with_reducible assumption) | assumption)
          obtain ⟨ad269, e269, hx269_0, hx269_1, hx269_2⟩ := at_T25 (Kd.R_reads' HO261.out).2.2 0 p269 q269
          cases e269
          have qi269 : (0 < t258.length) = True := eq_true (by omega)
          (try rw [show ((0 : Int)).toNat = 0 from rfl] at hx269_0)
          (try rw [show 0 * 3 = 0 from rfl] at hx269_0)
          (try rw [Addr.add_zero'] at hx269_0)
          (try rw [show ((0 : Int)).toNat = 0 from rfl] at hx269_1)
          (try rw [show 0 * 3 = 0 from rfl] at hx269_1)
          (try rw [Addr.add_zero'] at hx269_1)
          (try rw [show ((0 : Int)).toNat = 0 from rfl] at hx269_2)
          (try rw [show 0 * 3 = 0 from rfl] at hx269_2)
          (try rw [Addr.add_zero'] at hx269_2)
          replace p269 := eq_true p269
          replace q269 := eq_true q269
          refine start_ (n := 38) (S := fun w' => w'.cell? ⟨gb266, 0, none⟩ = some (.int .i64 t262) ∧ w'.cell? ⟨gb266, 1, none⟩ = some (.int .i64 t263) ∧ w'.cell? ⟨gb266, 2, none⟩ = some (.int .i64 t264) ∧ w'.cell? ad269 = some (.int .i64 ((rd_T25 t258 0).f0)) ∧ w'.cell? ⟨ad269.block, ad269.off + 1, none⟩ = some (.int .i64 ((rd_T25 t258 0).f1)) ∧ w'.cell? ⟨ad269.block, ad269.off + 2, none⟩ = some (.int .i64 ((rd_T25 t258 0).f2))) (ds := []) #[F,F,F,F,F,F,F,F,F,F,F,F,F,F,F,F,F,F,F,F,F,F,F,F,F,F,F,F,F,F,F,F,F,F,F,F,F,F] (by kernel_rfl) rfl rfl ⟨(uF BK266.out 0).trans rfl, (uF BK266.out 1).trans rfl, (uF BK266.out 2).trans rfl, hx269_0, hx269_1, hx269_2⟩ (fun hHeld => ?_); refine with_tabW laws_FnCandidates.tab7 laws_FnCandidates.bits7 (fun HT_ HW_ => ?_)
          generalize w35.drew = w36 at HO257 HO261 BK266 HB HO257 HO261 hx269_0 hx269_1 hx269_2 hHeld ⊢
          refine pu 0 (some 32) #[T,F,F,F,F,F,F,F,F,F,F,F,F,F,F,F,F,F,F,F,F,F,F,F,F,F,F,F,F,F,F,F,F,F,F,F,F,F] HT_ ?_
          refine pu 1 (some 33) #[T,T,F,F,F,F,F,F,F,F,F,F,F,F,F,F,F,F,F,F,F,F,F,F,F,F,F,F,F,F,F,F,F,F,F,F,F,F] HT_ ?_
          refine pu 2 (some 34) #[T,T,T,F,F,F,F,F,F,F,F,F,F,F,F,F,F,F,F,F,F,F,F,F,F,F,F,F,F,F,F,F,F,F,F,F,F,F] HT_ ?_
          refine pu 3 (some 35) #[T,T,T,T,F,F,F,F,F,F,F,F,F,F,F,F,F,F,F,F,F,F,F,F,F,F,F,F,F,F,F,F,F,F,F,F,F,F] HT_ ?_
          refine pu 4 (some 36) #[T,T,T,T,T,F,F,F,F,F,F,F,F,F,F,F,F,F,F,F,F,F,F,F,F,F,F,F,F,F,F,F,F,F,F,F,F,F] HT_ ?_
          refine pu 5 (some 37) #[T,T,T,T,T,T,F,F,F,F,F,F,F,F,F,F,F,F,F,F,F,F,F,F,F,F,F,F,F,F,F,F,F,F,F,F,F,F] HT_ ?_
          refine one_ (i := 6) (N := some 38) #[T,T,T,T,T,T,T,F,F,F,F,F,F,F,F,F,F,F,F,F,F,F,F,F,F,F,F,F,F,F,F,F,F,F,F,F,F,F] rfl rfl (one_of HT_.out (by kernel_rfl)) (by decide) (fun K hK => ?_)
          refine goes_ Tryd.func27 (by kernel_rfl) rfl #[.slice Ao37 t254.length co37, .slice (some ad269) t258.length co38] (by rfl) rfl rfl (by (try simp only [List.map_toArray, List.map_cons, List.map_nil]); first | done | rfl | (simp only [List.length_drop, List.length_take]; rfl)) ?_
          with_reducible refine (laws_sameTags.calls k _ _ t254 _ _ t258 true _ ?side1 ?side2 ?side3 ?side4 A16.out).mono ?_
          (case side1 => exact pc ((Kd.R_reads' HO257.out).2.2))
          (case side2 => exact (Kd.R_reads' HO257.out).2.1)
          (case side3 => exact pc ((Kd.R_reads' HO261.out).2.2))
          (case side4 => exact (Kd.R_reads' HO261.out).2.1)
          rintro e w' ⟨rfl, ⟨nd, rfl⟩⟩
          refine ⟨_, rfl, ?_⟩
          refine hK.out _ _ ⟨(uF BK266.out 0).trans rfl, (uF BK266.out 1).trans rfl, (uF BK266.out 2).trans rfl, hHeld.2.2.2.1, hHeld.2.2.2.2.1, hHeld.2.2.2.2.2⟩ (fun hHeld => ?_)
          clear hK K
          refine norm_ (a' := ?_) ?_ ?_
          rotate_left
          ·show uc _ (some 38) _ = _
           simp only [uc, uA, uB, uC, uZ, ua]
           rfl
          refine pu 7 (some 39) #[T,T,T,T,T,T,T,T,F,F,F,F,F,F,F,F,F,F,F,F,F,F,F,F,F,F,F,F,F,F,F,F,F,F,F,F,F,F] HT_ ?_
          refine pu 8 (some 40) #[T,T,T,T,T,T,T,T,T,F,F,F,F,F,F,F,F,F,F,F,F,F,F,F,F,F,F,F,F,F,F,F,F,F,F,F,F,F] HT_ ?_
          refine pu 9 (some 41) #[T,T,T,T,T,T,T,T,T,T,F,F,F,F,F,F,F,F,F,F,F,F,F,F,F,F,F,F,F,F,F,F,F,F,F,F,F,F] HT_ ?_
          refine pu 10 (some 42) #[T,T,T,T,T,T,T,T,T,T,T,F,F,F,F,F,F,F,F,F,F,F,F,F,F,F,F,F,F,F,F,F,F,F,F,F,F,F] HT_ ?_
          refine pu 11 (some 43) #[T,T,T,T,T,T,T,T,T,T,T,T,F,F,F,F,F,F,F,F,F,F,F,F,F,F,F,F,F,F,F,F,F,F,F,F,F,F] HT_ ?_
          refine pu 12 (some 44) #[T,T,T,T,T,T,T,T,T,T,T,T,T,F,F,F,F,F,F,F,F,F,F,F,F,F,F,F,F,F,F,F,F,F,F,F,F,F] HT_ ?_
          refine ub (i := 13) (N := some 45) (v := undef) (a' := ?_) #[T,T,T,T,T,T,T,T,T,T,T,T,T,T,F,F,F,F,F,F,F,F,F,F,F,F,F,F,F,F,F,F,F,F,F,F,F,F] rfl rfl (uY HT_.out (by kernel_rfl)) (fun _ _ _ h => h) (Or.inr ⟨by rfl, rfl⟩) ?_ ?_
          rotate_left
          ·simp only [uc, uA, uB, uC, uZ, ua]
           rfl
          refine ub (i := 14) (N := some 46) (v := undef) (a' := ?_) #[T,T,T,T,T,T,T,T,T,T,T,T,T,T,T,F,F,F,F,F,F,F,F,F,F,F,F,F,F,F,F,F,F,F,F,F,F,F] rfl rfl (uY HT_.out (by kernel_rfl)) (fun _ _ _ h => h) (Or.inr ⟨by rfl, rfl⟩) ?_ ?_
          rotate_left
          ·simp only [uc, uA, uB, uC, uZ, ua]
           rfl
          refine ub (i := 15) (N := some 47) (v := undef) (a' := ?_) #[T,T,T,T,T,T,T,T,T,T,T,T,T,T,T,T,F,F,F,F,F,F,F,F,F,F,F,F,F,F,F,F,F,F,F,F,F,F] rfl rfl (uY HT_.out (by kernel_rfl)) (fun _ _ _ h => h) (Or.inr ⟨by rfl, rfl⟩) ?_ ?_
          rotate_left
          ·simp only [uc, uA, uB, uC, uZ, ua]
           rfl
          refine pu 16 (some 48) #[T,T,T,T,T,T,T,T,T,T,T,T,T,T,T,T,T,F,F,F,F,F,F,F,F,F,F,F,F,F,F,F,F,F,F,F,F,F] HT_ ?_
          refine pu 17 (some 49) #[T,T,T,T,T,T,T,T,T,T,T,T,T,T,T,T,T,T,F,F,F,F,F,F,F,F,F,F,F,F,F,F,F,F,F,F,F,F] HT_ ?_
          refine pu 18 (some 50) #[T,T,T,T,T,T,T,T,T,T,T,T,T,T,T,T,T,T,T,F,F,F,F,F,F,F,F,F,F,F,F,F,F,F,F,F,F,F] HT_ ?_
          refine pu 19 (some 51) #[T,T,T,T,T,T,T,T,T,T,T,T,T,T,T,T,T,T,T,T,F,F,F,F,F,F,F,F,F,F,F,F,F,F,F,F,F,F] HT_ ?_
          refine pu 20 (some 52) #[T,T,T,T,T,T,T,T,T,T,T,T,T,T,T,T,T,T,T,T,T,F,F,F,F,F,F,F,F,F,F,F,F,F,F,F,F,F] HT_ ?_
          refine pu 21 (some 53) #[T,T,T,T,T,T,T,T,T,T,T,T,T,T,T,T,T,T,T,T,T,T,F,F,F,F,F,F,F,F,F,F,F,F,F,F,F,F] HT_ ?_
          refine pu 23 (some 55) #[T,T,T,T,T,T,T,T,T,T,T,T,T,T,T,T,T,T,T,T,T,T,F,T,F,F,F,F,F,F,F,F,F,F,F,F,F,F] HT_ ?_
          refine pu 24 (some 56) #[T,T,T,T,T,T,T,T,T,T,T,T,T,T,T,T,T,T,T,T,T,T,F,T,T,F,F,F,F,F,F,F,F,F,F,F,F,F] HT_ ?_
          refine tk 22 (some 54) #[T,T,T,T,T,T,T,T,T,T,T,T,T,T,T,T,T,T,T,T,T,T,T,T,T,F,F,F,F,F,F,F,F,F,F,F,F,F] HT_ HW_ hHeld ?_
          refine tk 25 (some 57) #[T,T,T,T,T,T,T,T,T,T,T,T,T,T,T,T,T,T,T,T,T,T,T,T,T,T,F,F,F,F,F,F,F,F,F,F,F,F] HT_ HW_ hHeld ?_
          refine pu 26 (some 58) #[T,T,T,T,T,T,T,T,T,T,T,T,T,T,T,T,T,T,T,T,T,T,T,T,T,T,T,F,F,F,F,F,F,F,F,F,F,F] HT_ ?_
          refine pu 27 (some 59) #[T,T,T,T,T,T,T,T,T,T,T,T,T,T,T,T,T,T,T,T,T,T,T,T,T,T,T,T,F,F,F,F,F,F,F,F,F,F] HT_ ?_
          refine pu 28 (some 60) #[T,T,T,T,T,T,T,T,T,T,T,T,T,T,T,T,T,T,T,T,T,T,T,T,T,T,T,T,T,F,F,F,F,F,F,F,F,F] HT_ ?_
          refine pu 29 (some 61) #[T,T,T,T,T,T,T,T,T,T,T,T,T,T,T,T,T,T,T,T,T,T,T,T,T,T,T,T,T,T,F,F,F,F,F,F,F,F] HT_ ?_
          refine pu 30 (some 62) #[T,T,T,T,T,T,T,T,T,T,T,T,T,T,T,T,T,T,T,T,T,T,T,T,T,T,T,T,T,T,T,F,F,F,F,F,F,F] HT_ ?_
          refine pu 31 (some 63) #[T,T,T,T,T,T,T,T,T,T,T,T,T,T,T,T,T,T,T,T,T,T,T,T,T,T,T,T,T,T,T,T,F,F,F,F,F,F] HT_ ?_
          refine pu 32 (some 64) #[T,T,T,T,T,T,T,T,T,T,T,T,T,T,T,T,T,T,T,T,T,T,T,T,T,T,T,T,T,T,T,T,T,F,F,F,F,F] HT_ ?_
          refine ub (i := 33) (N := some 65) (v := undef) (a' := ?_) #[T,T,T,T,T,T,T,T,T,T,T,T,T,T,T,T,T,T,T,T,T,T,T,T,T,T,T,T,T,T,T,T,T,T,F,F,F,F] rfl rfl (uY HT_.out (by kernel_rfl)) (fun _ _ _ h => h) (Or.inr ⟨by rfl, rfl⟩) ?_ ?_
          rotate_left
          ·simp only [uc, uA, uB, uC, uZ, ua]
           rfl
          refine ub (i := 34) (N := some 66) (v := undef) (a' := ?_) #[T,T,T,T,T,T,T,T,T,T,T,T,T,T,T,T,T,T,T,T,T,T,T,T,T,T,T,T,T,T,T,T,T,T,T,F,F,F] rfl rfl (uY HT_.out (by kernel_rfl)) (fun _ _ _ h => h) (Or.inr ⟨by rfl, rfl⟩) ?_ ?_
          rotate_left
          ·simp only [uc, uA, uB, uC, uZ, ua]
           rfl
          refine ub (i := 35) (N := some 67) (v := undef) (a' := ?_) #[T,T,T,T,T,T,T,T,T,T,T,T,T,T,T,T,T,T,T,T,T,T,T,T,T,T,T,T,T,T,T,T,T,T,T,T,F,F] rfl rfl (uY HT_.out (by kernel_rfl)) (fun _ _ _ h => h) (Or.inr ⟨by rfl, rfl⟩) ?_ ?_
          rotate_left
          ·simp only [uc, uA, uB, uC, uZ, ua]
           rfl
          refine pu 36 (some 68) #[T,T,T,T,T,T,T,T,T,T,T,T,T,T,T,T,T,T,T,T,T,T,T,T,T,T,T,T,T,T,T,T,T,T,T,T,T,F] HT_ ?_
          refine pu 37 (some 69) #[T,T,T,T,T,T,T,T,T,T,T,T,T,T,T,T,T,T,T,T,T,T,T,T,T,T,T,T,T,T,T,T,T,T,T,T,T,T] HT_ ?_
          refine done_ (done_of HT_.out (by kernel_rfl)) ?_
          try go_wp2
          go_meet
          case rel => exact ⟨_, (false), (by first | rfl | (simp; done) | (simp [*]; done)), H', ⟨by first | omega | exact Nat.le_refl _⟩, ⟨by (with_reducible repeat (first | apply uU | apply uS | apply uT)); exact uX HO257.out (fun _ hk => hk.2)⟩, ⟨by (with_reducible repeat first|apply uH|apply uJ|apply uG); exact BK266.out⟩, ⟨pb HB⟩⟩
        ·rw [if_neg c33] at H
         exact absurd H (by simp)
       ·replace c32 := Bool.eq_false_iff.mpr c32
        subst c32
        have H1 : (laws_FnCandidates.j0 k t253 t254 (!(t262 == 0) || (!(t263 == 0) || (!(t264 == 0))))) = some true := by rw [if_neg (show ¬ (false = true) by decide)] at H; first | done | exact H
        clear H
        have H := H1
        clear H1
        have H' := uD H
        clear H
        try go_wp2
        have n0_ : Aside0 (Kd.R k25 25 (((w13.setCell ⟨gb266, 0, none⟩ (.int .i64 t262)).setCell ⟨gb266, 1, none⟩ (.int .i64 t263)).setCell ⟨gb266, 2, none⟩ (.int .i64 t264)) w.heap.size (fun k_ => some k_ ≠ (v260 : Value).ownBlock ∧ k_ ≠ gb266) v256 t254) := ⟨by (with_reducible repeat (first | apply uU | apply uS | apply uT)); exact uX (uV (p := ⟨gb266, 2, none⟩) (uV (p := ⟨gb266, 1, none⟩) (uV (p := ⟨gb266, 0, none⟩) (uX HO257.out (fun k_ hk => (⟨hk, hk.2⟩ : _ ∧ k_ ≠ gb266))) (fun _ hk => hk.2) (.int .i64 t262)) (fun _ hk => hk.2) (.int .i64 t263)) (fun _ hk => hk.2) (.int .i64 t264)) (fun _ hk => ⟨hk.1.1.2, hk.1.2⟩)⟩
        have n1_ : Aside0 (Kd.R k25 25 (((w13.setCell ⟨gb266, 0, none⟩ (.int .i64 t262)).setCell ⟨gb266, 1, none⟩ (.int .i64 t263)).setCell ⟨gb266, 2, none⟩ (.int .i64 t264)) w.heap.size (fun k_ => some k_ ≠ (v256 : Value).ownBlock ∧ k_ ≠ gb266) v260 t258) := ⟨by (with_reducible repeat (first | apply uU | apply uS | apply uT)); exact uX (uV (p := ⟨gb266, 2, none⟩) (uV (p := ⟨gb266, 1, none⟩) (uV (p := ⟨gb266, 0, none⟩) (uX HO261.out (fun k_ hk => (⟨hk, hk.2⟩ : _ ∧ k_ ≠ gb266))) (fun _ hk => hk.2) (.int .i64 t262)) (fun _ hk => hk.2) (.int .i64 t263)) (fun _ hk => hk.2) (.int .i64 t264)) (fun _ hk => ⟨hk.1.1.2, hk.1.2⟩)⟩
        have n2_ : Aside0 ((((w13.setCell ⟨gb266, 0, none⟩ (.int .i64 t262)).setCell ⟨gb266, 1, none⟩ (.int .i64 t263)).setCell ⟨gb266, 2, none⟩ (.int .i64 t264)).heap[gb266]? = some (.cells #[.int .i64 t262, .int .i64 t263, .int .i64 t264] 25 (0, 0))) := ⟨by (with_reducible repeat first|apply uH|apply uJ|apply uG); refine uP (cs := #[.int .i64 t262, .int .i64 t263, .int .i64 0]) ?_ 2 _ rfl; (with_reducible repeat first|apply uH|apply uJ|apply uG); refine uP (cs := #[.int .i64 t262, .int .i64 0, .int .i64 0]) ?_ 1 _ rfl; (with_reducible repeat first|apply uH|apply uJ|apply uG); refine uP (cs := #[.int .i64 0, .int .i64 0, .int .i64 0]) ?_ 0 _ rfl; (with_reducible repeat first|apply uH|apply uJ|apply uG); exact BK266.out⟩
        have n3_ : Aside0 (Below w.heap.size w (((w13.setCell ⟨gb266, 0, none⟩ (.int .i64 t262)).setCell ⟨gb266, 1, none⟩ (.int .i64 t263)).setCell ⟨gb266, 2, none⟩ (.int .i64 t264))) := ⟨pb HB⟩
        (try clear HO257)
        (try clear HO261)
        (try clear BK266)
        (try clear HB)
        generalize (((w13.setCell ⟨gb266, 0, none⟩ (.int .i64 t262)).setCell ⟨gb266, 1, none⟩ (.int .i64 t263)).setCell ⟨gb266, 2, none⟩ (.int .i64 t264)) = w39 at n0_ n1_ n2_ n3_ ⊢
        have HO257 := n0_
        have HO261 := n1_
        have BK266 := n2_
        have HB := n3_
        clear n0_ n1_ n2_ n3_
        replace HO257 := uD (uT HO257.out)
        replace HO261 := uD (uT HO261.out)
        replace BK266 := uD (uJ BK266.out)
        replace HB := uD (uK HB.out)
        obtain ⟨Ao41, co41, eo41⟩ := Kd.R_slice HO257.out
        (first | subst eo41 | (injection eo41 with f1_ f2_ f3_; have f4_ := f1_.symm; have f5_ := f3_.symm; clear f1_ f2_ f3_; subst f4_; subst f5_))
        obtain ⟨Ao42, co42, eo42⟩ := Kd.R_slice HO261.out
        (first | subst eo42 | (injection eo42 with f1_ f2_ f3_; have f4_ := f1_.symm; have f5_ := f3_.symm; clear f1_ f2_ f3_; subst f4_; subst f5_))
        refine start_ (n := 38) (S := fun w' => w'.cell? ⟨gb266, 0, none⟩ = some (.int .i64 t262) ∧ w'.cell? ⟨gb266, 1, none⟩ = some (.int .i64 t263) ∧ w'.cell? ⟨gb266, 2, none⟩ = some (.int .i64 t264)) (ds := []) #[F,F,F,F,F,F,F,F,F,F,F,F,F,F,F,F,F,F,F,F,F,F,F,F,F,F,F,F,F,F,F,F,F,F,F,F,F,F] (by kernel_rfl) rfl rfl ⟨(uF BK266.out 0).trans rfl, (uF BK266.out 1).trans rfl, (uF BK266.out 2).trans rfl⟩ (fun hHeld => ?_); refine with_tabW laws_FnCandidates.tab7 laws_FnCandidates.bits7 (fun HT_ HW_ => ?_)
        generalize w39.drew = w40 at HO257 HO261 BK266 HB HO257 HO261 hHeld ⊢
        refine pu 0 (some 32) #[T,F,F,F,F,F,F,F,F,F,F,F,F,F,F,F,F,F,F,F,F,F,F,F,F,F,F,F,F,F,F,F,F,F,F,F,F,F] HT_ ?_
        refine pu 1 (some 33) #[T,T,F,F,F,F,F,F,F,F,F,F,F,F,F,F,F,F,F,F,F,F,F,F,F,F,F,F,F,F,F,F,F,F,F,F,F,F] HT_ ?_
        refine pu 2 (some 34) #[T,T,T,F,F,F,F,F,F,F,F,F,F,F,F,F,F,F,F,F,F,F,F,F,F,F,F,F,F,F,F,F,F,F,F,F,F,F] HT_ ?_
        refine pu 3 (some 35) #[T,T,T,T,F,F,F,F,F,F,F,F,F,F,F,F,F,F,F,F,F,F,F,F,F,F,F,F,F,F,F,F,F,F,F,F,F,F] HT_ ?_
        refine pu 4 (some 36) #[T,T,T,T,T,F,F,F,F,F,F,F,F,F,F,F,F,F,F,F,F,F,F,F,F,F,F,F,F,F,F,F,F,F,F,F,F,F] HT_ ?_
        refine pu 5 (some 37) #[T,T,T,T,T,T,F,F,F,F,F,F,F,F,F,F,F,F,F,F,F,F,F,F,F,F,F,F,F,F,F,F,F,F,F,F,F,F] HT_ ?_
        refine one_ (i := 6) (N := some 38) #[T,T,T,T,T,T,T,F,F,F,F,F,F,F,F,F,F,F,F,F,F,F,F,F,F,F,F,F,F,F,F,F,F,F,F,F,F,F] rfl rfl (one_of HT_.out (by kernel_rfl)) (by decide) (fun K hK => ?_)
        refine goes_ Tryd.func27 (by kernel_rfl) rfl #[.slice Ao41 t254.length co41, .slice Ao42 t258.length co42] (by rfl) rfl rfl (by (try simp only [List.map_toArray, List.map_cons, List.map_nil]); first | done | rfl | (simp only [List.length_drop, List.length_take]; rfl)) ?_
        with_reducible refine (laws_sameTags.calls k _ _ t254 _ _ t258 true _ ?side1 ?side2 ?side3 ?side4 A16.out).mono ?_
        (case side1 => exact pc ((Kd.R_reads' HO257.out).2.2))
        (case side2 => exact (Kd.R_reads' HO257.out).2.1)
        (case side3 => exact pc ((Kd.R_reads' HO261.out).2.2))
        (case side4 => exact (Kd.R_reads' HO261.out).2.1)
        rintro e w' ⟨rfl, ⟨nd, rfl⟩⟩
        refine ⟨_, rfl, ?_⟩
        refine hK.out _ _ ⟨(uF BK266.out 0).trans rfl, (uF BK266.out 1).trans rfl, (uF BK266.out 2).trans rfl⟩ (fun hHeld => ?_)
        clear hK K
        refine norm_ (a' := ?_) ?_ ?_
        rotate_left
        ·show uc _ (some 38) _ = _
         simp only [uc, uA, uB, uC, uZ, ua]
         rfl
        refine pu 7 (some 39) #[T,T,T,T,T,T,T,T,F,F,F,F,F,F,F,F,F,F,F,F,F,F,F,F,F,F,F,F,F,F,F,F,F,F,F,F,F,F] HT_ ?_
        refine pu 8 (some 40) #[T,T,T,T,T,T,T,T,T,F,F,F,F,F,F,F,F,F,F,F,F,F,F,F,F,F,F,F,F,F,F,F,F,F,F,F,F,F] HT_ ?_
        refine pu 9 (some 41) #[T,T,T,T,T,T,T,T,T,T,F,F,F,F,F,F,F,F,F,F,F,F,F,F,F,F,F,F,F,F,F,F,F,F,F,F,F,F] HT_ ?_
        refine pu 10 (some 42) #[T,T,T,T,T,T,T,T,T,T,T,F,F,F,F,F,F,F,F,F,F,F,F,F,F,F,F,F,F,F,F,F,F,F,F,F,F,F] HT_ ?_
        refine pu 11 (some 43) #[T,T,T,T,T,T,T,T,T,T,T,T,F,F,F,F,F,F,F,F,F,F,F,F,F,F,F,F,F,F,F,F,F,F,F,F,F,F] HT_ ?_
        refine pu 12 (some 44) #[T,T,T,T,T,T,T,T,T,T,T,T,T,F,F,F,F,F,F,F,F,F,F,F,F,F,F,F,F,F,F,F,F,F,F,F,F,F] HT_ ?_
        refine ub (i := 13) (N := some 45) (v := undef) (a' := ?_) #[T,T,T,T,T,T,T,T,T,T,T,T,T,T,F,F,F,F,F,F,F,F,F,F,F,F,F,F,F,F,F,F,F,F,F,F,F,F] rfl rfl (uY HT_.out (by kernel_rfl)) (fun _ _ _ h => h) (Or.inr ⟨by rfl, rfl⟩) ?_ ?_
        rotate_left
        ·simp only [uc, uA, uB, uC, uZ, ua]
         rfl
        refine ub (i := 14) (N := some 46) (v := undef) (a' := ?_) #[T,T,T,T,T,T,T,T,T,T,T,T,T,T,T,F,F,F,F,F,F,F,F,F,F,F,F,F,F,F,F,F,F,F,F,F,F,F] rfl rfl (uY HT_.out (by kernel_rfl)) (fun _ _ _ h => h) (Or.inr ⟨by rfl, rfl⟩) ?_ ?_
        rotate_left
        ·simp only [uc, uA, uB, uC, uZ, ua]
         rfl
        refine ub (i := 15) (N := some 47) (v := undef) (a' := ?_) #[T,T,T,T,T,T,T,T,T,T,T,T,T,T,T,T,F,F,F,F,F,F,F,F,F,F,F,F,F,F,F,F,F,F,F,F,F,F] rfl rfl (uY HT_.out (by kernel_rfl)) (fun _ _ _ h => h) (Or.inr ⟨by rfl, rfl⟩) ?_ ?_
        rotate_left
        ·simp only [uc, uA, uB, uC, uZ, ua]
         rfl
        refine pu 16 (some 48) #[T,T,T,T,T,T,T,T,T,T,T,T,T,T,T,T,T,F,F,F,F,F,F,F,F,F,F,F,F,F,F,F,F,F,F,F,F,F] HT_ ?_
        refine pu 17 (some 49) #[T,T,T,T,T,T,T,T,T,T,T,T,T,T,T,T,T,T,F,F,F,F,F,F,F,F,F,F,F,F,F,F,F,F,F,F,F,F] HT_ ?_
        refine pu 18 (some 50) #[T,T,T,T,T,T,T,T,T,T,T,T,T,T,T,T,T,T,T,F,F,F,F,F,F,F,F,F,F,F,F,F,F,F,F,F,F,F] HT_ ?_
        refine pu 19 (some 51) #[T,T,T,T,T,T,T,T,T,T,T,T,T,T,T,T,T,T,T,T,F,F,F,F,F,F,F,F,F,F,F,F,F,F,F,F,F,F] HT_ ?_
        refine pu 20 (some 52) #[T,T,T,T,T,T,T,T,T,T,T,T,T,T,T,T,T,T,T,T,T,F,F,F,F,F,F,F,F,F,F,F,F,F,F,F,F,F] HT_ ?_
        refine pu 21 (some 53) #[T,T,T,T,T,T,T,T,T,T,T,T,T,T,T,T,T,T,T,T,T,T,F,F,F,F,F,F,F,F,F,F,F,F,F,F,F,F] HT_ ?_
        refine ub (i := 22) (N := some 54) (v := undef) (a' := ?_) #[T,T,T,T,T,T,T,T,T,T,T,T,T,T,T,T,T,T,T,T,T,T,T,F,F,F,F,F,F,F,F,F,F,F,F,F,F,F] rfl rfl (uY HT_.out (by kernel_rfl)) (fun _ _ _ h => h) (Or.inr ⟨by rfl, rfl⟩) ?_ ?_
        rotate_left
        ·simp only [uc, uA, uB, uC, uZ, ua]
         rfl
        refine ub (i := 23) (N := some 55) (v := undef) (a' := ?_) #[T,T,T,T,T,T,T,T,T,T,T,T,T,T,T,T,T,T,T,T,T,T,T,T,F,F,F,F,F,F,F,F,F,F,F,F,F,F] rfl rfl (uY HT_.out (by kernel_rfl)) (fun _ _ _ h => h) (Or.inr ⟨by rfl, rfl⟩) ?_ ?_
        rotate_left
        ·simp only [uc, uA, uB, uC, uZ, ua]
         rfl
        refine ub (i := 24) (N := some 56) (v := undef) (a' := ?_) #[T,T,T,T,T,T,T,T,T,T,T,T,T,T,T,T,T,T,T,T,T,T,T,T,T,F,F,F,F,F,F,F,F,F,F,F,F,F] rfl rfl (uY HT_.out (by kernel_rfl)) (fun _ _ _ h => h) (Or.inr ⟨by rfl, rfl⟩) ?_ ?_
        rotate_left
        ·simp only [uc, uA, uB, uC, uZ, ua]
         rfl
        refine ub (i := 25) (N := some 57) (v := undef) (a' := ?_) #[T,T,T,T,T,T,T,T,T,T,T,T,T,T,T,T,T,T,T,T,T,T,T,T,T,T,F,F,F,F,F,F,F,F,F,F,F,F] rfl rfl (uY HT_.out (by kernel_rfl)) (fun _ _ _ h => h) (Or.inr ⟨by rfl, rfl⟩) ?_ ?_
        rotate_left
        ·simp only [uc, uA, uB, uC, uZ, ua]
         rfl
        refine ub (i := 26) (N := some 58) (v := undef) (a' := ?_) #[T,T,T,T,T,T,T,T,T,T,T,T,T,T,T,T,T,T,T,T,T,T,T,T,T,T,T,F,F,F,F,F,F,F,F,F,F,F] rfl rfl (uY HT_.out (by kernel_rfl)) (fun _ _ _ h => h) (Or.inr ⟨by rfl, rfl⟩) ?_ ?_
        rotate_left
        ·simp only [uc, uA, uB, uC, uZ, ua]
         rfl
        refine pu 27 (some 59) #[T,T,T,T,T,T,T,T,T,T,T,T,T,T,T,T,T,T,T,T,T,T,T,T,T,T,T,T,F,F,F,F,F,F,F,F,F,F] HT_ ?_
        refine pu 28 (some 60) #[T,T,T,T,T,T,T,T,T,T,T,T,T,T,T,T,T,T,T,T,T,T,T,T,T,T,T,T,T,F,F,F,F,F,F,F,F,F] HT_ ?_
        refine pu 29 (some 61) #[T,T,T,T,T,T,T,T,T,T,T,T,T,T,T,T,T,T,T,T,T,T,T,T,T,T,T,T,T,T,F,F,F,F,F,F,F,F] HT_ ?_
        refine pu 30 (some 62) #[T,T,T,T,T,T,T,T,T,T,T,T,T,T,T,T,T,T,T,T,T,T,T,T,T,T,T,T,T,T,T,F,F,F,F,F,F,F] HT_ ?_
        refine pu 31 (some 63) #[T,T,T,T,T,T,T,T,T,T,T,T,T,T,T,T,T,T,T,T,T,T,T,T,T,T,T,T,T,T,T,T,F,F,F,F,F,F] HT_ ?_
        refine pu 32 (some 64) #[T,T,T,T,T,T,T,T,T,T,T,T,T,T,T,T,T,T,T,T,T,T,T,T,T,T,T,T,T,T,T,T,T,F,F,F,F,F] HT_ ?_
        refine pu 34 (some 66) #[T,T,T,T,T,T,T,T,T,T,T,T,T,T,T,T,T,T,T,T,T,T,T,T,T,T,T,T,T,T,T,T,T,F,T,F,F,F] HT_ ?_
        refine tk 33 (some 65) #[T,T,T,T,T,T,T,T,T,T,T,T,T,T,T,T,T,T,T,T,T,T,T,T,T,T,T,T,T,T,T,T,T,T,T,F,F,F] HT_ HW_ hHeld ?_
        refine pu 35 (some 67) #[T,T,T,T,T,T,T,T,T,T,T,T,T,T,T,T,T,T,T,T,T,T,T,T,T,T,T,T,T,T,T,T,T,T,T,T,F,F] HT_ ?_
        refine pu 36 (some 68) #[T,T,T,T,T,T,T,T,T,T,T,T,T,T,T,T,T,T,T,T,T,T,T,T,T,T,T,T,T,T,T,T,T,T,T,T,T,F] HT_ ?_
        refine pu 37 (some 69) #[T,T,T,T,T,T,T,T,T,T,T,T,T,T,T,T,T,T,T,T,T,T,T,T,T,T,T,T,T,T,T,T,T,T,T,T,T,T] HT_ ?_
        refine done_ (done_of HT_.out (by kernel_rfl)) ?_
        try go_wp2
        go_meet
        case rel => exact ⟨_, ((!(t262 == 0) || (!(t263 == 0) || (!(t264 == 0))))), (by first | rfl | (simp; done) | (simp [*]; done)), H', ⟨by first | omega | exact Nat.le_refl _⟩, ⟨by (with_reducible repeat (first | apply uU | apply uS | apply uT)); exact uX HO257.out (fun _ hk => hk.2)⟩, ⟨by (with_reducible repeat first|apply uH|apply uJ|apply uG); exact BK266.out⟩, ⟨pb HB⟩⟩
    ·replace c17 := Bool.eq_false_iff.mpr c17
     subst c17
     have H1 : (laws_FnCandidates.j0 k t253 t254 true) = some true := by rw [if_neg (show ¬ (false = true) by decide)] at H; first | done | exact H
     clear H
     have H := H1
     clear H1
     exact absurd H (by cases k <;> simp [laws_FnCandidates.j0])
  case rest =>
   clear HC8
   try clear c1
   try clear c2
   try clear p2
   try clear c3
   try clear c17
   try clear c27
   try clear c32
   try clear c33
   obtain ⟨kq, x69_7, rfl, HA, HJ7, HO_4, BK266, HB⟩ := hcut
   cases kq with
   | zero => exact absurd HA.out (by simp [laws_FnCandidates.j0])
   | succ kj7 =>
    have H := HA.out
    clear HA
    simp only [laws_FnCandidates.j0] at H
    by_cases c43 : x69_7 = true
    ·subst c43
     have H1 : (some false) = some true := by rw [if_pos rfl] at H; first | done | exact H
     clear H
     have H := H1
     clear H1
     exact absurd H (by simp)
    ·replace c43 := Bool.eq_false_iff.mpr c43
     subst c43
     have H1 : (laws_FnCandidates.l0 kj7 t253 t254 0) = some true := by rw [if_neg (show ¬ (false = true) by decide)] at H; first | done | exact H
     clear H
     have H := H1
     clear H1
     have H' := uD H
     clear H
     go_wp2
     go_loopg [10] kj7 (fun kq v10 w' => ∃ (x10_2 : Int), v10 = .int .i64 x10_2 ∧ Aside0 (laws_FnCandidates.l0 kq t253 t254 x10_2 = some true) ∧ Aside0 (kq ≤ kj7) ∧ Aside0 (Kd.R k25 25 w' w.heap.size (fun k_ => k_ ≠ gb266) v256 t254) ∧ Aside0 (w'.heap[gb266]? = some (.cells #[.int .i64 t262, .int .i64 t263, .int .i64 t264] 25 (0, 0))) ∧ Aside0 (Below w.heap.size w w'))
     case atStart => exact ⟨(0), (by first | rfl | (simp; done) | (simp [*]; done)), H', ⟨Nat.le_refl _⟩, ⟨by (with_reducible repeat (first | apply uU | apply uS | apply uT)); exact HO_4.out⟩, ⟨by (with_reducible repeat first|apply uH|apply uJ|apply uG); exact BK266.out⟩, ⟨pb HB⟩⟩
     case round =>
      clear H'
      try clear c1
      try clear c2
      try clear p2
      try clear c3
      try clear c4
      try clear c17
      try clear c27
      try clear c32
      try clear c33
      try clear c43
      try clear p2
      obtain ⟨x10_2, rfl, HA, HK2, HO_4, BK266, HB⟩ := hrel
      cases gk with
      | zero => exact absurd HA.out (by simp [laws_FnCandidates.l0])
      | succ k2 =>
       have H := HA.out
       clear HA
       simp only [laws_FnCandidates.l0] at H
       by_cases c44 : x10_2 < (t254.length : Int)
       ·rw [if_pos c44] at H
        have c44b0 : decide (x10_2 < (t254.length : Int)) = true := decide_eq_true c44
        clear c44
        by_cases c45 : 0 ≤ x10_2
        ·rw [if_pos c45] at H
         have c45b0 : decide (0 ≤ x10_2) = true := decide_eq_true c45
         clear c45
         replace H := Option.bind_eq_some_iff.mp H
         obtain ⟨t271, A460, H⟩ := H
         replace H : (if x10_2 > 0 then ((impl_TagNumber.f ((rd_T25 t254 x10_2).f0) ((rd_T25 t254 x10_2).f1) ((rd_T25 t254 x10_2).f2)).bind fun t273 => (if 0 ≤ (wrap64 (x10_2 - 1)) then (if (wrap64 (x10_2 - 1)) < (t254.length : Int) then ((impl_TagNumber.f ((rd_T25 t254 (wrap64 (x10_2 - 1))).f0) ((rd_T25 t254 (wrap64 (x10_2 - 1))).f1) ((rd_T25 t254 (wrap64 (x10_2 - 1))).f2)).bind fun t275 => (if t273 ≤ t275 then (laws_FnCandidates.j2 k2 t253 t254 x10_2 t271 true) else (laws_FnCandidates.j2 k2 t253 t254 x10_2 t271 ((t271.size : Int) != (t253.size : Int))))) else (none)) else (none))) else (laws_FnCandidates.j2 k2 t253 t254 x10_2 t271 ((t271.size : Int) != (t253.size : Int)))) = some true := H
         have A46 := uD A460
         clear A460
         have HC47 := uD H
         clear H
         obtain ⟨Ao48, co48, eo48⟩ := Kd.R_slice HO_4.out
         subst eo48
         have p270 : 0 ≤ (x10_2 : Int) := of_decide_eq_true (by first | (with_reducible assumption) | assumption)
         have q270 : x10_2 < (t254.length : Int) := of_decide_eq_true (by first | (with_reducible assumption) | assumption)
         obtain ⟨ad270, e270, hx270_0, hx270_1, hx270_2⟩ := at_T25 (Kd.R_reads' HO_4.out).2.2 x10_2 p270 q270
         cases e270
         replace p270 := eq_true p270
         replace q270 := eq_true q270
         go_upto_region 13 with (first | ((with_reducible refine gate_callee (f := 14) rfl ?_); refine gl (some 80) Tryd.func14 #[.agg #[.int .i64 ((rd_T25 t254 x10_2).f0), .int .i64 ((rd_T25 t254 x10_2).f1), .int .i64 ((rd_T25 t254 x10_2).f2)]] ?_; (with_reducible refine (impl_FormatTag.calls k2 ((rd_T25 t254 x10_2).f0) ((rd_T25 t254 x10_2).f1) ((rd_T25 t254 x10_2).f2) t271 _ ?side1 A46.out).mono ?_); (case side1 => exact tb11 HTAB (pb HB)); rintro e w49 ⟨rfl, hb⟩; refine ⟨_, rfl, ?_⟩; replace HO_4 := uD (Kd.R_below (pr HO_4) hb); replace BK266 := uD (blk_below (pk BK266) hb); replace HB := uD (uO (pb HB) hb); (try clear hb); (try clear hb2); (try clear hk); (try clear hi)))
         (try simp only [uc, uA, uB, uC])
         go_cut [103] (fun v103 wc => ∃ (kq : Nat) (x103_46 : Bool), v103 = .bool x103_46 ∧ Aside0 (laws_FnCandidates.j2 kq t253 t254 x10_2 t271 x103_46 = some true) ∧ Aside0 (kq ≤ k2) ∧ Aside0 (Kd.R k25 25 wc w.heap.size (fun k_ => k_ ≠ gb266) (.slice (some ad270) t254.length co48) t254) ∧ Aside0 (wc.heap[gb266]? = some (.cells #[.int .i64 t262, .int .i64 t263, .int .i64 t264] 25 (0, 0))) ∧ Aside0 (Below w.heap.size w wc))
         case first =>
          have H := HC47.out
          clear HC47
          by_cases c50 : x10_2 > 0
          ·rw [if_pos c50] at H
           have c50b0 : decide (0 < x10_2) = true := decide_eq_true c50
           clear c50
           (first | rw [c50b0] | (simp only [uZ, ua]; rw [c50b0]) | skip)
           replace H := Option.bind_eq_some_iff.mp H
           obtain ⟨t273, A510, H⟩ := H
           replace H : (if 0 ≤ (wrap64 (x10_2 - 1)) then (if (wrap64 (x10_2 - 1)) < (t254.length : Int) then ((impl_TagNumber.f ((rd_T25 t254 (wrap64 (x10_2 - 1))).f0) ((rd_T25 t254 (wrap64 (x10_2 - 1))).f1) ((rd_T25 t254 (wrap64 (x10_2 - 1))).f2)).bind fun t275 => (if t273 ≤ t275 then (laws_FnCandidates.j2 k2 t253 t254 x10_2 t271 true) else (laws_FnCandidates.j2 k2 t253 t254 x10_2 t271 ((t271.size : Int) != (t253.size : Int))))) else (none)) else (none)) = some true := H
           have A51 := uD A510
           clear A510
           obtain ⟨ji52, hji52⟩ : ∃ j_ : Int, (wrap64 (x10_2 - 1)) = j_ := ⟨_, rfl⟩
           replace H : (if 0 ≤ (ji52) then (if (ji52) < (t254.length : Int) then ((impl_TagNumber.f ((rd_T25 t254 (ji52)).f0) ((rd_T25 t254 (ji52)).f1) ((rd_T25 t254 (ji52)).f2)).bind fun t275 => (if t273 ≤ t275 then (laws_FnCandidates.j2 k2 t253 t254 x10_2 t271 true) else (laws_FnCandidates.j2 k2 t253 t254 x10_2 t271 ((t271.size : Int) != (t253.size : Int))))) else (none)) else (none)) = some true := by first | (rw [hji52] at H; exact H) | (simp only [hji52] at H ⊢; exact H)
           (try rw [hji52] at A51)
           have hji52w : (IntKind.i64.wrap (x10_2 - 1)) = ji52 := (uZ _).trans hji52
           by_cases c53 : 0 ≤ (ji52)
           ·rw [if_pos c53] at H
            have c53b0 : decide (0 ≤ (ji52)) = true := decide_eq_true c53
            clear c53
            by_cases c54 : (ji52) < (t254.length : Int)
            ·rw [if_pos c54] at H
             have c54b0 : decide ((ji52) < (t254.length : Int)) = true := decide_eq_true c54
             clear c54
             replace H := Option.bind_eq_some_iff.mp H
             obtain ⟨t275, A550, H⟩ := H
             replace H : (if t273 ≤ t275 then (laws_FnCandidates.j2 k2 t253 t254 x10_2 t271 true) else (laws_FnCandidates.j2 k2 t253 t254 x10_2 t271 ((t271.size : Int) != (t253.size : Int)))) = some true := H
             have A55 := uD A550
             clear A550
             by_cases c56 : t273 ≤ t275
             ·rw [if_pos c56] at H
              have c56b0 : decide (t273 ≤ t275) = true := decide_eq_true c56
              clear c56
              exact absurd H (by cases k2 <;> simp [laws_FnCandidates.j2])
             ·rw [if_neg c56] at H
              have c56b0 : decide (t273 ≤ t275) = false := decide_eq_false c56
              clear c56
              have H' := uD H
              clear H
              try go_wp2
              replace HO_4 := uD (uT HO_4.out)
              replace BK266 := uD (uJ BK266.out)
              replace HB := uD (uK HB.out)
              have p272 : 0 ≤ (x10_2 : Int) := of_decide_eq_true (by first | (with_reducible assumption) | assumption)
              have q272 : x10_2 < (t254.length : Int) := of_decide_eq_true (by first | (with_reducible assumption) | assumption)
              obtain ⟨ad272, e272, hx272_0, hx272_1, hx272_2⟩ := at_T25 (Kd.R_reads' HO_4.out).2.2 x10_2 p272 q272
              obtain rfl : ad270 = ad272 := (by injection e272)
              replace p272 := eq_true p272
              replace q272 := eq_true q272
              have p274 : 0 ≤ ((ji52) : Int) := of_decide_eq_true (by first | (with_reducible assumption) | assumption)
              have q274 : (ji52) < (t254.length : Int) := of_decide_eq_true (by first | (with_reducible assumption) | assumption)
              obtain ⟨ad274, e274, hx274_0, hx274_1, hx274_2⟩ := at_T25 (Kd.R_reads' HO_4.out).2.2 (ji52) p274 q274
              obtain rfl : ad270 = ad274 := (by injection e274)
              replace p274 := eq_true p274
              replace q274 := eq_true q274
              refine start_ (n := 23) (S := fun w' => w'.cell? (ad270.add ((x10_2).toNat * 3)) = some (.int .i64 ((rd_T25 t254 x10_2).f0)) ∧ w'.cell? ⟨(ad270.add ((x10_2).toNat * 3)).block, (ad270.add ((x10_2).toNat * 3)).off + 1, none⟩ = some (.int .i64 ((rd_T25 t254 x10_2).f1)) ∧ w'.cell? ⟨(ad270.add ((x10_2).toNat * 3)).block, (ad270.add ((x10_2).toNat * 3)).off + 2, none⟩ = some (.int .i64 ((rd_T25 t254 x10_2).f2)) ∧ w'.cell? (ad270.add (((ji52)).toNat * 3)) = some (.int .i64 ((rd_T25 t254 (ji52)).f0)) ∧ w'.cell? ⟨(ad270.add (((ji52)).toNat * 3)).block, (ad270.add (((ji52)).toNat * 3)).off + 1, none⟩ = some (.int .i64 ((rd_T25 t254 (ji52)).f1)) ∧ w'.cell? ⟨(ad270.add (((ji52)).toNat * 3)).block, (ad270.add (((ji52)).toNat * 3)).off + 2, none⟩ = some (.int .i64 ((rd_T25 t254 (ji52)).f2))) (ds := []) #[F,F,F,F,F,F,F,F,F,F,F,F,F,F,F,F,F,F,F,F,F,F,F] (by kernel_rfl) rfl rfl ⟨hx272_0, hx272_1, hx272_2, hx274_0, hx274_1, hx274_2⟩ (fun hHeld => ?_); refine with_tabW laws_FnCandidates.tab13 laws_FnCandidates.bits13 (fun HT_ HW_ => ?_)
              generalize w49.drew = w57 at HO_4 BK266 HB hx272_0 hx272_1 hx272_2 hx274_0 hx274_1 hx274_2 hHeld ⊢
              refine pu 0 (some 81) #[T,F,F,F,F,F,F,F,F,F,F,F,F,F,F,F,F,F,F,F,F,F,F] HT_ ?_
              refine pu 1 (some 82) #[T,T,F,F,F,F,F,F,F,F,F,F,F,F,F,F,F,F,F,F,F,F,F] HT_ ?_
              refine pu 2 (some 83) #[T,T,T,F,F,F,F,F,F,F,F,F,F,F,F,F,F,F,F,F,F,F,F] HT_ ?_
              refine pu 3 (some 84) #[T,T,T,T,F,F,F,F,F,F,F,F,F,F,F,F,F,F,F,F,F,F,F] HT_ ?_
              refine pu 4 (some 85) #[T,T,T,T,T,F,F,F,F,F,F,F,F,F,F,F,F,F,F,F,F,F,F] HT_ ?_
              refine pu 5 (some 86) #[T,T,T,T,T,T,F,F,F,F,F,F,F,F,F,F,F,F,F,F,F,F,F] HT_ ?_
              refine pu 8 (some 89) #[T,T,T,T,T,T,F,F,T,F,F,F,F,F,F,F,F,F,F,F,F,F,F] HT_ ?_
              refine pu 9 (some 90) #[T,T,T,T,T,T,F,F,T,T,F,F,F,F,F,F,F,F,F,F,F,F,F] HT_ ?_
              refine pu 10 (some 91) #[T,T,T,T,T,T,F,F,T,T,T,F,F,F,F,F,F,F,F,F,F,F,F] HT_ ?_
              refine pu 11 (some 92) #[T,T,T,T,T,T,F,F,T,T,T,T,F,F,F,F,F,F,F,F,F,F,F] HT_ ?_
              refine tk 6 (some 87) #[T,T,T,T,T,T,T,F,T,T,T,T,F,F,F,F,F,F,F,F,F,F,F] HT_ HW_ hHeld ?_
              refine tk 12 (some 93) #[T,T,T,T,T,T,T,F,T,T,T,T,T,F,F,F,F,F,F,F,F,F,F] HT_ HW_ hHeld ?_
              refine one_ (i := 7) (N := some 88) #[T,T,T,T,T,T,T,T,T,T,T,T,T,F,F,F,F,F,F,F,F,F,F] rfl rfl (one_of HT_.out (by kernel_rfl)) (by decide) (fun K hK => ?_)
              refine goes_ Tryd.func28 (by kernel_rfl) rfl #[.agg #[.int .i64 ((rd_T25 t254 x10_2).f0), .int .i64 ((rd_T25 t254 x10_2).f1), .int .i64 ((rd_T25 t254 x10_2).f2)]] (by rfl) rfl rfl (by (try simp only [List.map_toArray, List.map_cons, List.map_nil]); first | done | rfl | (simp only [List.length_drop, List.length_take]; rfl)) ?_
              with_reducible refine (impl_TagNumber.calls ((rd_T25 t254 x10_2).f0) ((rd_T25 t254 x10_2).f1) ((rd_T25 t254 x10_2).f2) t273 _ A51.out).mono ?_
              rintro e w58 ⟨rfl, hb⟩
              have HS0_ := (hb.cell (World.block_lt_of_cell? _ _ (hHeld.1))).trans (hHeld.1)
              have HS1_ := (hb.cell (World.block_lt_of_cell? _ _ (hHeld.2.1))).trans (hHeld.2.1)
              have HS2_ := (hb.cell (World.block_lt_of_cell? _ _ (hHeld.2.2.1))).trans (hHeld.2.2.1)
              have HS3_ := (hb.cell (World.block_lt_of_cell? _ _ (hHeld.2.2.2.1))).trans (hHeld.2.2.2.1)
              have HS4_ := (hb.cell (World.block_lt_of_cell? _ _ (hHeld.2.2.2.2.1))).trans (hHeld.2.2.2.2.1)
              have HS5_ := (hb.cell (World.block_lt_of_cell? _ _ (hHeld.2.2.2.2.2))).trans (hHeld.2.2.2.2.2)
              refine ⟨_, rfl, ?_⟩
              replace HO_4 := uD (Kd.R_below (pr HO_4) hb)
              replace BK266 := uD (blk_below (pk BK266) hb)
              replace HB := uD (uO (pb HB) hb)
              (try clear hb)
              (try clear hb2)
              (try clear hk)
              (try clear hi)
              refine hK.out _ _ ⟨HS0_, HS1_, HS2_, HS3_, HS4_, HS5_⟩ (fun hHeld => ?_)
              clear hK K
              refine norm_ (a' := ?_) ?_ ?_
              rotate_left
              ·show uc _ (some 88) _ = _
               simp only [uc, uA, uB, uC, uZ, ua]
               rfl
              refine one_ (i := 13) (N := some 94) #[T,T,T,T,T,T,T,T,T,T,T,T,T,T,F,F,F,F,F,F,F,F,F] rfl rfl (one_of HT_.out (by kernel_rfl)) (by decide) (fun K hK => ?_)
              refine goes_ Tryd.func28 (by kernel_rfl) rfl #[.agg #[.int .i64 ((rd_T25 t254 (ji52)).f0), .int .i64 ((rd_T25 t254 (ji52)).f1), .int .i64 ((rd_T25 t254 (ji52)).f2)]] (by rfl) rfl rfl (by (try simp only [List.map_toArray, List.map_cons, List.map_nil]); first | done | (simp only [hji52]; rfl) | rfl | (simp only [List.length_drop, List.length_take]; rfl)) ?_
              with_reducible refine (impl_TagNumber.calls ((rd_T25 t254 (ji52)).f0) ((rd_T25 t254 (ji52)).f1) ((rd_T25 t254 (ji52)).f2) t275 _ A55.out).mono ?_
              rintro e w59 ⟨rfl, hb⟩
              have HS0_ := (hb.cell (World.block_lt_of_cell? _ _ (hHeld.1))).trans (hHeld.1)
              have HS1_ := (hb.cell (World.block_lt_of_cell? _ _ (hHeld.2.1))).trans (hHeld.2.1)
              have HS2_ := (hb.cell (World.block_lt_of_cell? _ _ (hHeld.2.2.1))).trans (hHeld.2.2.1)
              have HS3_ := (hb.cell (World.block_lt_of_cell? _ _ (hHeld.2.2.2.1))).trans (hHeld.2.2.2.1)
              have HS4_ := (hb.cell (World.block_lt_of_cell? _ _ (hHeld.2.2.2.2.1))).trans (hHeld.2.2.2.2.1)
              have HS5_ := (hb.cell (World.block_lt_of_cell? _ _ (hHeld.2.2.2.2.2))).trans (hHeld.2.2.2.2.2)
              refine ⟨_, rfl, ?_⟩
              replace HO_4 := uD (Kd.R_below (pr HO_4) hb)
              replace BK266 := uD (blk_below (pk BK266) hb)
              replace HB := uD (uO (pb HB) hb)
              (try clear hb)
              (try clear hb2)
              (try clear hk)
              (try clear hi)
              refine hK.out _ _ ⟨HS0_, HS1_, HS2_, HS3_, HS4_, HS5_⟩ (fun hHeld => ?_)
              clear hK K
              refine norm_ (a' := ?_) ?_ ?_
              rotate_left
              ·show uc _ (some 94) _ = _
               simp only [uc, uA, uB, uC, uZ, ua]
               rfl
              refine pu 14 (some 95) #[T,T,T,T,T,T,T,T,T,T,T,T,T,T,T,F,F,F,F,F,F,F,F] HT_ ?_
              refine pu 15 (some 96) #[T,T,T,T,T,T,T,T,T,T,T,T,T,T,T,T,F,F,F,F,F,F,F] HT_ ?_
              refine pu 16 (some 97) #[T,T,T,T,T,T,T,T,T,T,T,T,T,T,T,T,T,F,F,F,F,F,F] HT_ ?_
              refine pu 17 (some 98) #[T,T,T,T,T,T,T,T,T,T,T,T,T,T,T,T,T,T,F,F,F,F,F] HT_ ?_
              refine pu 18 (some 99) #[T,T,T,T,T,T,T,T,T,T,T,T,T,T,T,T,T,T,T,F,F,F,F] HT_ ?_
              refine pu 19 (some 100) #[T,T,T,T,T,T,T,T,T,T,T,T,T,T,T,T,T,T,T,T,F,F,F] HT_ ?_
              refine pu 20 (some 101) #[T,T,T,T,T,T,T,T,T,T,T,T,T,T,T,T,T,T,T,T,T,F,F] HT_ ?_
              refine pu 21 (some 102) #[T,T,T,T,T,T,T,T,T,T,T,T,T,T,T,T,T,T,T,T,T,T,F] HT_ ?_
              refine pu 22 (some 103) #[T,T,T,T,T,T,T,T,T,T,T,T,T,T,T,T,T,T,T,T,T,T,T] HT_ ?_
              refine done_ (done_of HT_.out (by kernel_rfl)) ?_
              try go_wp2
              go_meet
              case rel => exact ⟨_, (((t271.size : Int) != (t253.size : Int))), (by first | rfl | (simp; done) | (simp [*]; done)), H', ⟨by have := HJ7.out; have := HK2.out; first | omega | exact Nat.le_refl _⟩, ⟨by (with_reducible repeat (first | apply uU | apply uS | apply uT)); exact HO_4.out⟩, ⟨by (with_reducible repeat first|apply uH|apply uJ|apply uG); exact BK266.out⟩, ⟨pb HB⟩⟩
            ·rw [if_neg c54] at H
             exact absurd H (by simp)
           ·rw [if_neg c53] at H
            exact absurd H (by simp)
          ·rw [if_neg c50] at H
           have c50b0 : decide (0 < x10_2) = false := decide_eq_false c50
           clear c50
           (first | rw [c50b0] | (simp only [uZ, ua]; rw [c50b0]) | skip)
           have H' := uD H
           clear H
           try go_wp2
           replace HO_4 := uD (uT HO_4.out)
           replace BK266 := uD (uJ BK266.out)
           replace HB := uD (uK HB.out)
           refine start_ (n := 23) (S := fun w' => True) (ds := []) #[F,F,F,F,F,F,F,F,F,F,F,F,F,F,F,F,F,F,F,F,F,F,F] (by kernel_rfl) rfl rfl trivial (fun hHeld => ?_); refine with_tabW laws_FnCandidates.tab13 laws_FnCandidates.bits13 (fun HT_ HW_ => ?_)
           generalize w49.drew = w60 at HO_4 BK266 HB hHeld ⊢
           refine pu 0 (some 81) #[T,F,F,F,F,F,F,F,F,F,F,F,F,F,F,F,F,F,F,F,F,F,F] HT_ ?_
           refine pu 1 (some 82) #[T,T,F,F,F,F,F,F,F,F,F,F,F,F,F,F,F,F,F,F,F,F,F] HT_ ?_
           refine pu 2 (some 83) #[T,T,T,F,F,F,F,F,F,F,F,F,F,F,F,F,F,F,F,F,F,F,F] HT_ ?_
           refine ub (i := 3) (N := some 84) (v := undef) (a' := ?_) #[T,T,T,T,F,F,F,F,F,F,F,F,F,F,F,F,F,F,F,F,F,F,F] rfl rfl (uY HT_.out (by kernel_rfl)) (fun _ _ _ h => h) (Or.inr ⟨by rfl, rfl⟩) ?_ ?_
           rotate_left
           ·simp only [uc, uA, uB, uC, uZ, ua]
            rfl
           refine ub (i := 4) (N := some 85) (v := undef) (a' := ?_) #[T,T,T,T,T,F,F,F,F,F,F,F,F,F,F,F,F,F,F,F,F,F,F] rfl rfl (uY HT_.out (by kernel_rfl)) (fun _ _ _ h => h) (Or.inr ⟨by rfl, rfl⟩) ?_ ?_
           rotate_left
           ·simp only [uc, uA, uB, uC, uZ, ua]
            rfl
           refine ub (i := 5) (N := some 86) (v := undef) (a' := ?_) #[T,T,T,T,T,T,F,F,F,F,F,F,F,F,F,F,F,F,F,F,F,F,F] rfl rfl (uY HT_.out (by kernel_rfl)) (fun _ _ _ h => h) (Or.inr ⟨by rfl, rfl⟩) ?_ ?_
           rotate_left
           ·simp only [uc, uA, uB, uC, uZ, ua]
            rfl
           refine ub (i := 6) (N := some 87) (v := undef) (a' := ?_) #[T,T,T,T,T,T,T,F,F,F,F,F,F,F,F,F,F,F,F,F,F,F,F] rfl rfl (uY HT_.out (by kernel_rfl)) (fun _ _ _ h => h) (Or.inr ⟨by rfl, rfl⟩) ?_ ?_
           rotate_left
           ·simp only [uc, uA, uB, uC, uZ, ua]
            rfl
           refine ub (i := 7) (N := some 88) (v := undef) (a' := ?_) #[T,T,T,T,T,T,T,T,F,F,F,F,F,F,F,F,F,F,F,F,F,F,F] rfl rfl (uY HT_.out (by kernel_rfl)) (fun _ _ _ h => h) (Or.inr ⟨by rfl, rfl⟩) ?_ ?_
           rotate_left
           ·simp only [uc, uA, uB, uC, uZ, ua]
            rfl
           refine ub (i := 8) (N := some 89) (v := undef) (a' := ?_) #[T,T,T,T,T,T,T,T,T,F,F,F,F,F,F,F,F,F,F,F,F,F,F] rfl rfl (uY HT_.out (by kernel_rfl)) (fun _ _ _ h => h) (Or.inr ⟨by rfl, rfl⟩) ?_ ?_
           rotate_left
           ·simp only [uc, uA, uB, uC, uZ, ua]
            rfl
           refine ub (i := 9) (N := some 90) (v := undef) (a' := ?_) #[T,T,T,T,T,T,T,T,T,T,F,F,F,F,F,F,F,F,F,F,F,F,F] rfl rfl (uY HT_.out (by kernel_rfl)) (fun _ _ _ h => h) (Or.inr ⟨by rfl, rfl⟩) ?_ ?_
           rotate_left
           ·simp only [uc, uA, uB, uC, uZ, ua]
            rfl
           refine ub (i := 10) (N := some 91) (v := undef) (a' := ?_) #[T,T,T,T,T,T,T,T,T,T,T,F,F,F,F,F,F,F,F,F,F,F,F] rfl rfl (uY HT_.out (by kernel_rfl)) (fun _ _ _ h => h) (Or.inr ⟨by rfl, rfl⟩) ?_ ?_
           rotate_left
           ·simp only [uc, uA, uB, uC, uZ, ua]
            rfl
           refine ub (i := 11) (N := some 92) (v := undef) (a' := ?_) #[T,T,T,T,T,T,T,T,T,T,T,T,F,F,F,F,F,F,F,F,F,F,F] rfl rfl (uY HT_.out (by kernel_rfl)) (fun _ _ _ h => h) (Or.inr ⟨by rfl, rfl⟩) ?_ ?_
           rotate_left
           ·simp only [uc, uA, uB, uC, uZ, ua]
            rfl
           refine ub (i := 12) (N := some 93) (v := undef) (a' := ?_) #[T,T,T,T,T,T,T,T,T,T,T,T,T,F,F,F,F,F,F,F,F,F,F] rfl rfl (uY HT_.out (by kernel_rfl)) (fun _ _ _ h => h) (Or.inr ⟨by rfl, rfl⟩) ?_ ?_
           rotate_left
           ·simp only [uc, uA, uB, uC, uZ, ua]
            rfl
           refine ub (i := 13) (N := some 94) (v := undef) (a' := ?_) #[T,T,T,T,T,T,T,T,T,T,T,T,T,T,F,F,F,F,F,F,F,F,F] rfl rfl (uY HT_.out (by kernel_rfl)) (fun _ _ _ h => h) (Or.inr ⟨by rfl, rfl⟩) ?_ ?_
           rotate_left
           ·simp only [uc, uA, uB, uC, uZ, ua]
            rfl
           refine ub (i := 14) (N := some 95) (v := undef) (a' := ?_) #[T,T,T,T,T,T,T,T,T,T,T,T,T,T,T,F,F,F,F,F,F,F,F] rfl rfl (uY HT_.out (by kernel_rfl)) (fun _ _ _ h => h) (Or.inr ⟨by rfl, rfl⟩) ?_ ?_
           rotate_left
           ·simp only [uc, uA, uB, uC, uZ, ua]
            rfl
           refine pu 15 (some 96) #[T,T,T,T,T,T,T,T,T,T,T,T,T,T,T,T,F,F,F,F,F,F,F] HT_ ?_
           refine pu 16 (some 97) #[T,T,T,T,T,T,T,T,T,T,T,T,T,T,T,T,T,F,F,F,F,F,F] HT_ ?_
           refine pu 17 (some 98) #[T,T,T,T,T,T,T,T,T,T,T,T,T,T,T,T,T,T,F,F,F,F,F] HT_ ?_
           refine pu 18 (some 99) #[T,T,T,T,T,T,T,T,T,T,T,T,T,T,T,T,T,T,T,F,F,F,F] HT_ ?_
           refine pu 19 (some 100) #[T,T,T,T,T,T,T,T,T,T,T,T,T,T,T,T,T,T,T,T,F,F,F] HT_ ?_
           refine pu 20 (some 101) #[T,T,T,T,T,T,T,T,T,T,T,T,T,T,T,T,T,T,T,T,T,F,F] HT_ ?_
           refine pu 21 (some 102) #[T,T,T,T,T,T,T,T,T,T,T,T,T,T,T,T,T,T,T,T,T,T,F] HT_ ?_
           refine pu 22 (some 103) #[T,T,T,T,T,T,T,T,T,T,T,T,T,T,T,T,T,T,T,T,T,T,T] HT_ ?_
           refine done_ (done_of HT_.out (by kernel_rfl)) ?_
           try go_wp2
           go_meet
           case rel => exact ⟨_, (((t271.size : Int) != (t253.size : Int))), (by first | rfl | (simp; done) | (simp [*]; done)), H', ⟨by have := HJ7.out; have := HK2.out; first | omega | exact Nat.le_refl _⟩, ⟨by (with_reducible repeat (first | apply uU | apply uS | apply uT)); exact HO_4.out⟩, ⟨by (with_reducible repeat first|apply uH|apply uJ|apply uG); exact BK266.out⟩, ⟨pb HB⟩⟩
         case rest =>
          clear HC47
          try clear c1
          try clear c2
          try clear p2
          try clear q2
          try clear hx2
          try clear c3
          try clear c4
          try clear c5
          try clear p6
          try clear c14
          try clear c17
          try clear c27
          try clear p27
          try clear q27
          try clear hx27
          try clear c28
          try clear c32
          try clear c33
          try clear c43
          try clear c44
          try clear c44b0
          try clear c45
          try clear c45b0
          try clear c50
          try clear c50b0
          try clear c53
          try clear c53b0
          try clear c54
          try clear c54b0
          try clear c56
          try clear c56b0
          try clear hx270_0
          try clear hx270_1
          try clear hx270_2
          try clear hx272_0
          try clear hx272_1
          try clear hx272_2
          try clear hx274_0
          try clear hx274_1
          try clear hx274_2
          try clear p2
          try clear p270
          try clear p272
          try clear p274
          try clear q270
          try clear q272
          try clear q274
          obtain ⟨kq, x103_46, rfl, HA, HJ46, HO_4, BK266, HB⟩ := hcut
          cases kq with
          | zero => exact absurd HA.out (by simp [laws_FnCandidates.j2])
          | succ kj46 =>
           have H := HA.out
           clear HA
           simp only [laws_FnCandidates.j2] at H
           by_cases c61 : x103_46 = true
           ·subst c61
            have H1 : (some false) = some true := by rw [if_pos rfl] at H; first | done | exact H
            clear H
            have H := H1
            clear H1
            exact absurd H (by simp)
           ·replace c61 := Bool.eq_false_iff.mpr c61
            subst c61
            have H1 : (laws_FnCandidates.l1 kj46 t253 t254 x10_2 t271 0) = some true := by rw [if_neg (show ¬ (false = true) by decide)] at H; first | done | exact H
            clear H
            have H := H1
            clear H1
            have H' := uD H
            clear H
            go_wp2
            go_loopg [12] kj46 (fun kq v12 w' => ∃ (x12_4 : Int), v12 = .int .i64 x12_4 ∧ Aside0 (laws_FnCandidates.l1 kq t253 t254 x10_2 t271 x12_4 = some true) ∧ Aside0 (kq ≤ kj46) ∧ Aside0 (Kd.R k25 25 w' w.heap.size (fun k_ => k_ ≠ gb266) (.slice (some ad270) t254.length co48) t254) ∧ Aside0 (w'.heap[gb266]? = some (.cells #[.int .i64 t262, .int .i64 t263, .int .i64 t264] 25 (0, 0))) ∧ Aside0 (Below w.heap.size w w'))
            case atStart => exact ⟨(0), (by first | rfl | (simp; done) | (simp [*]; done)), H', ⟨Nat.le_refl _⟩, ⟨by (with_reducible repeat (first | apply uU | apply uS | apply uT)); exact HO_4.out⟩, ⟨by (with_reducible repeat first|apply uH|apply uJ|apply uG); exact BK266.out⟩, ⟨pb HB⟩⟩
            case round =>
             clear H'
             try clear c1
             try clear c2
             try clear p2
             try clear q2
             try clear hx2
             try clear c3
             try clear c4
             try clear c5
             try clear c6
             try clear p6
             try clear c14
             try clear c17
             try clear c27
             try clear p27
             try clear q27
             try clear hx27
             try clear c28
             try clear c32
             try clear c33
             try clear c43
             try clear c44
             try clear c44b0
             try clear c45
             try clear c45b0
             try clear c50
             try clear c50b0
             try clear c53
             try clear c53b0
             try clear c54
             try clear c54b0
             try clear c56
             try clear c56b0
             try clear c61
             try clear hx270_0
             try clear hx270_1
             try clear hx270_2
             try clear hx272_0
             try clear hx272_1
             try clear hx272_2
             try clear hx274_0
             try clear hx274_1
             try clear hx274_2
             try clear p2
             try clear p27
             try clear p270
             try clear p272
             try clear p274
             try clear p6
             try clear q2
             try clear q27
             try clear q270
             try clear q272
             try clear q274
             obtain ⟨x12_4, rfl, HA, HK4, HO_4, BK266, HB⟩ := hrel
             cases gk with
             | zero => exact absurd HA.out (by simp [laws_FnCandidates.l1])
             | succ k4 =>
              have H := HA.out
              clear HA
              simp only [laws_FnCandidates.l1] at H
              by_cases c62 : x12_4 < (t271.size : Int)
              ·rw [if_pos c62] at H
               have c62b0 : decide (x12_4 < (t271.size : Int)) = true := decide_eq_true c62
               clear c62
               by_cases c63 : 0 ≤ x12_4
               ·rw [if_pos c63] at H
                have c63b0 : decide (0 ≤ x12_4) = true := decide_eq_true c63
                clear c63
                by_cases c64 : x12_4 < (t253.size : Int)
                ·rw [if_pos c64] at H
                 have c64b0 : decide (x12_4 < (t253.size : Int)) = true := decide_eq_true c64
                 clear c64
                 by_cases c66 : (bt t253 x12_4) = 63
                 ·rw [if_pos c66] at H
                  have c66b0 : ((bt t253 x12_4) == 63) = true := beq_iff_eq.mpr c66
                  have c66b1 : ((bt t253 x12_4) != 63) = false := bne_eq_false_iff_eq.mpr c66
                  clear c66
                  have H' := uD H
                  clear H
                  try go_wp2
                  replace HO_4 := uD (uT HO_4.out)
                  replace BK266 := uD (uJ BK266.out)
                  replace HB := uD (uK HB.out)
                  have p65 : 0 ≤ (x12_4 : Int) := of_decide_eq_true (by first | (with_reducible assumption) | assumption)
                  have q65 : x12_4 < (t253.size : Int) := of_decide_eq_true (by first | (with_reducible assumption) | assumption)
                  have hx65 := bt_at t253 x12_4
                  replace p65 := eq_true p65
                  replace q65 := eq_true q65
                  refine start_ (n := 13) (S := fun w' => True) (ds := []) #[F,F,F,F,F,F,F,F,F,F,F,F,F] (by kernel_rfl) rfl rfl trivial (fun hHeld => ?_); refine with_tabW laws_FnCandidates.tab18 laws_FnCandidates.bits18 (fun HT_ HW_ => ?_)
                  generalize wr.drew = w67 at HO_4 BK266 HB hHeld ⊢
                  refine pu 0 (some 110) #[T,F,F,F,F,F,F,F,F,F,F,F,F] HT_ ?_
                  refine pu 1 (some 111) #[T,T,F,F,F,F,F,F,F,F,F,F,F] HT_ ?_
                  refine take_ (i := 2) (N := some 112) (v := ?_) (a' := ?_) #[T,T,T,F,F,F,F,F,F,F,F,F,F] rfl rfl (take_ofW HT_.out HW_.out (by kernel_rfl)) (fun _ _ _ h => h) (Or.inl ⟨by rfl, ?_⟩) hHeld ?_ ?_
                  rotate_left
                  ·intro w' _
                   go_simp
                   with_reducible rfl
                  rotate_left
                  ·simp only [uc, uA, uB, uC, uZ, ua]
                   rfl
                  refine pu 3 (some 113) #[T,T,T,T,F,F,F,F,F,F,F,F,F] HT_ ?_
                  refine pu 4 (some 114) #[T,T,T,T,T,F,F,F,F,F,F,F,F] HT_ ?_
                  refine ub (i := 5) (N := some 115) (v := undef) (a' := ?_) #[T,T,T,T,T,T,F,F,F,F,F,F,F] rfl rfl (uY HT_.out (by kernel_rfl)) (fun _ _ _ h => h) (Or.inr ⟨by rfl, rfl⟩) ?_ ?_
                  rotate_left
                  ·simp only [uc, uA, uB, uC, uZ, ua]
                   rfl
                  refine ub (i := 6) (N := some 116) (v := undef) (a' := ?_) #[T,T,T,T,T,T,T,F,F,F,F,F,F] rfl rfl (uY HT_.out (by kernel_rfl)) (fun _ _ _ h => h) (Or.inr ⟨by rfl, rfl⟩) ?_ ?_
                  rotate_left
                  ·simp only [uc, uA, uB, uC, uZ, ua]
                   rfl
                  refine ub (i := 7) (N := some 117) (v := undef) (a' := ?_) #[T,T,T,T,T,T,T,T,F,F,F,F,F] rfl rfl (uY HT_.out (by kernel_rfl)) (fun _ _ _ h => h) (Or.inr ⟨by rfl, rfl⟩) ?_ ?_
                  rotate_left
                  ·simp only [uc, uA, uB, uC, uZ, ua]
                   rfl
                  refine ub (i := 8) (N := some 118) (v := undef) (a' := ?_) #[T,T,T,T,T,T,T,T,T,F,F,F,F] rfl rfl (uY HT_.out (by kernel_rfl)) (fun _ _ _ h => h) (Or.inr ⟨by rfl, rfl⟩) ?_ ?_
                  rotate_left
                  ·simp only [uc, uA, uB, uC, uZ, ua]
                   rfl
                  refine ub (i := 9) (N := some 119) (v := undef) (a' := ?_) #[T,T,T,T,T,T,T,T,T,T,F,F,F] rfl rfl (uY HT_.out (by kernel_rfl)) (fun _ _ _ h => h) (Or.inr ⟨by rfl, rfl⟩) ?_ ?_
                  rotate_left
                  ·simp only [uc, uA, uB, uC, uZ, ua]
                   rfl
                  refine ub (i := 10) (N := some 120) (v := undef) (a' := ?_) #[T,T,T,T,T,T,T,T,T,T,T,F,F] rfl rfl (uY HT_.out (by kernel_rfl)) (fun _ _ _ h => h) (Or.inr ⟨by rfl, rfl⟩) ?_ ?_
                  rotate_left
                  ·simp only [uc, uA, uB, uC, uZ, ua]
                   rfl
                  refine ub (i := 11) (N := some 121) (v := undef) (a' := ?_) #[T,T,T,T,T,T,T,T,T,T,T,T,F] rfl rfl (uY HT_.out (by kernel_rfl)) (fun _ _ _ h => h) (Or.inr ⟨by rfl, rfl⟩) ?_ ?_
                  rotate_left
                  ·simp only [uc, uA, uB, uC, uZ, ua]
                   rfl
                  refine pu 12 (some 122) #[T,T,T,T,T,T,T,T,T,T,T,T,T] HT_ ?_
                  refine done_ (done_of HT_.out (by kernel_rfl)) ?_
                  try go_wp2
                  go_roundg k4
                  case measure => have := HJ7.out; have := HK2.out; have := HJ46.out; have := HK4.out; omega
                  case rel => exact ⟨(wrap64 (x12_4 + 1)), (by first | rfl | (simp; done) | (simp [*]; done)), H', ⟨by have := HJ7.out; have := HK2.out; have := HJ46.out; have := HK4.out; omega⟩, ⟨by (with_reducible repeat (first | apply uU | apply uS | apply uT)); exact HO_4.out⟩, ⟨by (with_reducible repeat first|apply uH|apply uJ|apply uG); exact BK266.out⟩, ⟨pb HB⟩⟩
                 ·rw [if_neg c66] at H
                  have c66b0 : ((bt t253 x12_4) == 63) = false := beq_eq_false_iff_ne.mpr c66
                  have c66b1 : ((bt t253 x12_4) != 63) = true := bne_iff_ne.mpr c66
                  by_cases c70 : (bt t253 x12_4) = (bt t271 x12_4)
                  ·rw [if_pos c70] at H
                   have c70b0 : ((bt t253 x12_4) == (bt t271 x12_4)) = true := beq_iff_eq.mpr c70
                   have c70b1 : ((bt t253 x12_4) != (bt t271 x12_4)) = false := bne_eq_false_iff_eq.mpr c70
                   clear c70
                   have H' := uD H
                   clear H
                   try go_wp2
                   replace HO_4 := uD (uT HO_4.out)
                   replace BK266 := uD (uJ BK266.out)
                   replace HB := uD (uK HB.out)
                   have p65 : 0 ≤ (x12_4 : Int) := of_decide_eq_true (by first | (with_reducible assumption) | assumption)
                   have q65 : x12_4 < (t253.size : Int) := of_decide_eq_true (by first | (with_reducible assumption) | assumption)
                   have hx65 := bt_at t253 x12_4
                   replace p65 := eq_true p65
                   replace q65 := eq_true q65
                   have p68 : 0 ≤ (x12_4 : Int) := of_decide_eq_true (by first | (with_reducible assumption) | assumption)
                   have q68 : x12_4 < (t253.size : Int) := of_decide_eq_true (by first | (with_reducible assumption) | assumption)
                   have hx68 := bt_at t253 x12_4
                   replace p68 := eq_true p68
                   replace q68 := eq_true q68
                   have p69 : 0 ≤ (x12_4 : Int) := of_decide_eq_true (by first | (with_reducible assumption) | assumption)
                   have q69 : x12_4 < (t271.size : Int) := of_decide_eq_true (by first | (with_reducible assumption) | assumption)
                   have hx69 := bt_at t271 x12_4
                   replace p69 := eq_true p69
                   replace q69 := eq_true q69
                   refine start_ (n := 13) (S := fun w' => True) (ds := []) #[F,F,F,F,F,F,F,F,F,F,F,F,F] (by kernel_rfl) rfl rfl trivial (fun hHeld => ?_); refine with_tabW laws_FnCandidates.tab18 laws_FnCandidates.bits18 (fun HT_ HW_ => ?_)
                   generalize wr.drew = w71 at HO_4 BK266 HB hHeld ⊢
                   refine pu 0 (some 110) #[T,F,F,F,F,F,F,F,F,F,F,F,F] HT_ ?_
                   refine pu 1 (some 111) #[T,T,F,F,F,F,F,F,F,F,F,F,F] HT_ ?_
                   refine take_ (i := 2) (N := some 112) (v := ?_) (a' := ?_) #[T,T,T,F,F,F,F,F,F,F,F,F,F] rfl rfl (take_ofW HT_.out HW_.out (by kernel_rfl)) (fun _ _ _ h => h) (Or.inl ⟨by rfl, ?_⟩) hHeld ?_ ?_
                   rotate_left
                   ·intro w' _
                    go_simp
                    with_reducible rfl
                   rotate_left
                   ·simp only [uc, uA, uB, uC, uZ, ua]
                    rfl
                   refine pu 3 (some 113) #[T,T,T,T,F,F,F,F,F,F,F,F,F] HT_ ?_
                   refine pu 4 (some 114) #[T,T,T,T,T,F,F,F,F,F,F,F,F] HT_ ?_
                   refine pu 5 (some 115) #[T,T,T,T,T,T,F,F,F,F,F,F,F] HT_ ?_
                   refine pu 6 (some 116) #[T,T,T,T,T,T,T,F,F,F,F,F,F] HT_ ?_
                   refine pu 8 (some 118) #[T,T,T,T,T,T,T,F,T,F,F,F,F] HT_ ?_
                   refine pu 9 (some 119) #[T,T,T,T,T,T,T,F,T,T,F,F,F] HT_ ?_
                   refine take_ (i := 7) (N := some 117) (v := ?_) (a' := ?_) #[T,T,T,T,T,T,T,T,T,T,F,F,F] rfl rfl (take_ofW HT_.out HW_.out (by kernel_rfl)) (fun _ _ _ h => h) (Or.inl ⟨by rfl, ?_⟩) hHeld ?_ ?_
                   rotate_left
                   ·intro w' _
                    go_simp
                    with_reducible rfl
                   rotate_left
                   ·simp only [uc, uA, uB, uC, uZ, ua]
                    rfl
                   refine take_ (i := 10) (N := some 120) (v := ?_) (a' := ?_) #[T,T,T,T,T,T,T,T,T,T,T,F,F] rfl rfl (take_ofW HT_.out HW_.out (by kernel_rfl)) (fun _ _ _ h => h) (Or.inl ⟨by rfl, ?_⟩) hHeld ?_ ?_
                   rotate_left
                   ·intro w' _
                    go_simp
                    with_reducible rfl
                   rotate_left
                   ·simp only [uc, uA, uB, uC, uZ, ua]
                    rfl
                   refine pu 11 (some 121) #[T,T,T,T,T,T,T,T,T,T,T,T,F] HT_ ?_
                   refine pu 12 (some 122) #[T,T,T,T,T,T,T,T,T,T,T,T,T] HT_ ?_
                   refine done_ (done_of HT_.out (by kernel_rfl)) ?_
                   try go_wp2
                   go_roundg k4
                   case measure => have := HJ7.out; have := HK2.out; have := HJ46.out; have := HK4.out; omega
                   case rel => exact ⟨(wrap64 (x12_4 + 1)), (by first | rfl | (simp; done) | (simp [*]; done)), H', ⟨by have := HJ7.out; have := HK2.out; have := HJ46.out; have := HK4.out; omega⟩, ⟨by (with_reducible repeat (first | apply uU | apply uS | apply uT)); exact HO_4.out⟩, ⟨by (with_reducible repeat first|apply uH|apply uJ|apply uG); exact BK266.out⟩, ⟨pb HB⟩⟩
                  ·rw [if_neg c70] at H
                   have c70b0 : ((bt t253 x12_4) == (bt t271 x12_4)) = false := beq_eq_false_iff_ne.mpr c70
                   have c70b1 : ((bt t253 x12_4) != (bt t271 x12_4)) = true := bne_iff_ne.mpr c70
                   exact absurd H (by simp)
                ·rw [if_neg c64] at H
                 exact absurd H (by simp)
               ·rw [if_neg c63] at H
                exact absurd H (by simp)
              ·rw [if_neg c62] at H
               have c62b0 : decide (x12_4 < (t271.size : Int)) = false := decide_eq_false c62
               clear c62
               have H' := uD H
               clear H
               go_wp2
               go_roundg k4
               case measure => have := HJ7.out; have := HK2.out; have := HJ46.out; have := HK4.out; omega
               case rel => exact ⟨(wrap64 (x10_2 + 1)), (by first | rfl | (simp; done) | (simp [*]; done)), H', ⟨by have := HJ7.out; have := HK2.out; have := HJ46.out; have := HK4.out; omega⟩, ⟨by (with_reducible repeat (first | apply uU | apply uS | apply uT)); exact HO_4.out⟩, ⟨by (with_reducible repeat first|apply uH|apply uJ|apply uG); exact BK266.out⟩, ⟨pb HB⟩⟩
        ·rw [if_neg c45] at H
         exact absurd H (by simp)
       ·rw [if_neg c44] at H
        have c44b0 : decide (x10_2 < (t254.length : Int)) = false := decide_eq_false c44
        clear c44
        have HT := Option.some.inj H
        clear H
        obtain ⟨Ao72, co72, eo72⟩ := Kd.R_slice HO_4.out
        subst eo72
        go_wp2
        go_ret
        exact ⟨by first | rfl | (simp [errW_none, errW_some] <;> rfl) | (simp [*, errW_none, errW_some] <;> rfl), pb HB⟩

/-- THE ONE PURE STATEMENT of laws_FnCandidates: yours. -/
def laws_FnCandidates.Pure : Prop := ∀ (l0 : List Int), l0.length ≤ maxLen → l0.length * 1 ≤ 140737488351232 → (∀ x ∈ l0, (Lit.int .u8 x).wf = true) → ∃ k, laws_FnCandidates.f k l0 = some true
theorem laws_FnCandidates.walk (P : laws_FnCandidates.Pure) (a0 : Option Addr) (len0 cap0 : Nat) (z0 : List Int) (w : World) (w0 : (a0 = none ∧ len0 = 0 ∧ cap0 = 0 ∧ z0 = []) ∨ ∃ x, a0 = some x ∧ len0 ≤ cap0 ∧ cap0 ≤ maxLen ∧ z0.length = cap0 ∧ (∀ i, i < z0.length → w.cell? (x.add i) = some (.int .u8 (z0.getD i 0))) ∧ ∀ n ∈ z0, (Lit.int .u8 n).wf = true) (y0 : len0 * 1 ≤ 140737488351232) (htab : Tab1 Tryd.prog w) :
  Calls Tryd.prog 7 #[.slice a0 len0 cap0] w fun e w' => e = .returned (.bool true) ∧ Below w.heap.size w w' := by
 obtain ⟨l0, rfl, hr0, hm0, hw0, hc0⟩ := ReadsInt.ofRowC w0
 obtain ⟨k, h⟩ := P l0 hm0 y0 hw0
 refine (laws_FnCandidates.calls k _ _ l0 w (Kd.C_of_reads (d := (0 : Int)) (h1 := fun _ => rfl) hr0) hc0 htab h).mono ?_
 rintro e w' ⟨rfl, hd⟩
 exact ⟨rfl, hd⟩

end Go.Proofs.YtnkaimdcdedekaaDoor.PFnCandidates
