-- Written by a program of this session (wip/myprint.py: the kit's print with changes): not by print.sh itself.
import Derived.Test.YtnkaimdcdedekaaDoorPFnTagsx0
import Derived.Test.YtnkaimdcdedekaaDoorPFnTagsx1
import Derived.Test.YtnkaimdcdedekaaDoorPFnTagsx2
import Derived.Test.YtnkaimdcdedekaaDoorPFnTagsx4
import Derived.Test.YtnkaimdcdedekaaDoorPFnTagsx5
import Derived.Test.YtnkaimdcdedekaaDoorPFnTagsx6
namespace Go.Proofs.YtnkaimdcdedekaaDoor.PFnTags
open Go.RowKit Go.Proofs.YtnkaimdcdedekaaDoorW.PrintWords Go.Proofs.YtnkaimdcdedekaaDoorW.PrintLast Go.Proofs.YtnkaimdcdedekaaDoorW.PrintMore
open Go renaming Act.put → uc
open Go.Proofs.YtnkaimdcdedekaaDoorW.PrintLast renaming any_of → uY, i64_w → uZ, i32_w → ua, pure_ → ub
open Go.Proofs.YtnkaimdcdedekaaDoorW.PrintWords renaming Aside0.mk → uD, blk_cell → uF, blk_alloc → uG, blk_drewN → uH, blk_drew → uJ, below_drew1 → uK, below_size → uN, below_step → uO, blk_put → uP
open List renaming setIfInBounds_toArray → uA, set_cons_zero → uB, set_cons_succ → uC
open Bool renaming true → T, false → F
attribute [local go_sem] max2_int min2_int max_two min_two max_three min_three max_four min_four   -- for this text's walks alone
set_option linter.unusedVariables false
set_option linter.unusedSimpArgs false

attribute [local go_sem high] eqA25
/-! ### laws_FnTags: function 9 -/
mutual
def laws_FnTags.j0 : Nat → List Int → ByteArray → Bool → Option (Bool)
 | 0, _, _, _ => none
 | k + 1, x0, x4, x65 => if x65 = true then (some false) else (laws_FnTags.l0 k x0 x4 0)
def laws_FnTags.l0 : Nat → List Int → ByteArray → Int → Option (Bool)
 | 0, _, _, _ => none
 | k + 1, x0, x4, x7 => if x7 < 256 then (if 0 ≤ 11 then (if 11 ≤ (x4.size : Int) then ((some (([(x7) % 256] : List Int) : List Int)).bind fun y325 => (if (x4.extract 0 11).size + (strOfNums y325).size ≤ 9223372036854775807 then ((impl_ParseTag.f k ((x4.extract 0 11) ++ (strOfNums y325))).bind fun bt328 => (if (bt328.2.2.2 != (((x4.extract 0 11) ++ (strOfNums y325)).toList == x4.toList)) = true then (some false) else (laws_FnTags.l0 k x0 x4 (wrap64 (x7 + 1))))) else (none))) else (none)) else (none)) else ((spec_DrawFormatTag.f k x0).bind fun bt333 => ((spec_DrawParseTag.f k x0).bind fun t337 => ((impl_ParseTag.f k t337).bind fun bt338 => ((spec_ParseTag.f k t337).bind fun bt343 => ((impl_FormatTag.f k bt333.1 bt333.2.1 bt333.2.2).bind fun t348 => ((spec_FormatTag.f k bt333.1 bt333.2.1 bt333.2.2).bind fun t349 => (if t348.toList = t349.toList then ((impl_FormatTag.f k bt333.1 bt333.2.1 bt333.2.2).bind fun t350 => ((impl_TagOk.f bt333.1 bt333.2.1 bt333.2.2).bind fun t351 => (if ((t350.toList != ([] : List UInt8)) == t351) = true then (if (bt338.2.2.2 == bt343.2.2.2) = true then (if (bt338.1 == bt343.1 && (bt338.2.1 == bt343.2.1 && (bt338.2.2.1 == bt343.2.2.1))) = true then (if bt338.2.2.2 = true then ((impl_FormatTag.f k bt338.1 bt338.2.1 bt338.2.2.1).bind fun t352 => (some (t352.toList == t337.toList))) else (some true)) else (some false)) else (some false)) else (some false)))) else (some false))))))))
end
def laws_FnTags.f (k : Nat) (l0 : List Int) : Option (Bool) := (laws_big.f l0).bind fun t308 => (if t308 = true then (some true) else ((spec_DrawTag.f k l0).bind fun bt309 => ((impl_FormatTag.f k bt309.1 bt309.2.1 bt309.2.2).bind fun t313 => ((impl_ParseTag.f k t313).bind fun bt314 => (if (t313.size : Int) = 12 then ((spec_FormatTag.f k bt309.1 bt309.2.1 bt309.2.2).bind fun t319 => (if t313.toList = t319.toList then (if bt314.2.2.2 = true then (if (!(bt314.1 == bt309.1) || (!(bt314.2.1 == bt309.2.1) || (!(bt314.2.2.1 == bt309.2.2)))) = true then (laws_FnTags.j0 k l0 t313 true) else ((impl_TagOk.f bt309.1 bt309.2.1 bt309.2.2).bind fun t320 => (if t320 = true then ((impl_TagCheck.f bt309.1 bt309.2.1 bt309.2.2).bind fun t321 => ((spec_TagNumber.f bt309.1 bt309.2.1 bt309.2.2).bind fun t322 => (if t321 = (Int.tmod t322 7) then ((impl_TagNumber.f bt309.1 bt309.2.1 bt309.2.2).bind fun t323 => ((spec_TagNumber.f bt309.1 bt309.2.1 bt309.2.2).bind fun t324 => (laws_FnTags.j0 k l0 t313 (t323 != t324)))) else (laws_FnTags.j0 k l0 t313 true)))) else (laws_FnTags.j0 k l0 t313 true)))) else (laws_FnTags.j0 k l0 t313 true)) else (laws_FnTags.j0 k l0 t313 true))) else (laws_FnTags.j0 k l0 t313 true))))))
theorem laws_FnTags.mono_l : ∀ k, (∀ y0 y1 y2, LeO (laws_FnTags.j0 k y0 y1 y2) (laws_FnTags.j0 (k + 1) y0 y1 y2)) ∧ (∀ y0 y1 y2, LeO (laws_FnTags.l0 k y0 y1 y2) (laws_FnTags.l0 (k + 1) y0 y1 y2))
 | 0 => ⟨fun _ _ _ r h => by simp [laws_FnTags.j0] at h, fun _ _ _ r h => by simp [laws_FnTags.l0] at h⟩
 | k + 1 => by
  obtain ⟨ih0, ih1⟩ := laws_FnTags.mono_l k
  refine ⟨?_, ?_⟩
  ·intro y0 y1 y2
   unfold laws_FnTags.j0
   repeat' first
   | (with_reducible exact ih0 _ _ _)
   | (with_reducible exact ih1 _ _ _)
   | (with_reducible exact impl_FormatTag.mono _ _ _ _)
   | (with_reducible exact impl_ParseTag.mono _ _)
   | (with_reducible exact spec_DrawFormatTag.mono _ _)
   | (with_reducible exact spec_DrawParseTag.mono _ _)
   | (with_reducible exact spec_DrawTag.mono _ _)
   | (with_reducible exact spec_FormatTag.mono _ _ _ _)
   | (with_reducible exact spec_ParseTag.mono _ _)
   | (with_reducible exact LeO.refl _)
   | (with_reducible exact LeO.none _)
   | (with_reducible refine LeO.ite ?_ ?_)
   | (with_reducible refine LeO.bind ?_ (fun _ => ?_))
   | exact ih0 _ _ _
   | exact ih1 _ _ _
   | exact impl_FormatTag.mono _ _ _ _
   | exact impl_ParseTag.mono _ _
   | exact spec_DrawFormatTag.mono _ _
   | exact spec_DrawParseTag.mono _ _
   | exact spec_DrawTag.mono _ _
   | exact spec_FormatTag.mono _ _ _ _
   | exact spec_ParseTag.mono _ _
   | exact LeO.none _
   | refine LeO.ite ?_ ?_
   | refine LeO.bind ?_ (fun _ => ?_)
  ·intro y0 y1 y2
   unfold laws_FnTags.l0
   repeat' first
   | (with_reducible exact ih0 _ _ _)
   | (with_reducible exact ih1 _ _ _)
   | (with_reducible exact impl_FormatTag.mono _ _ _ _)
   | (with_reducible exact impl_ParseTag.mono _ _)
   | (with_reducible exact spec_DrawFormatTag.mono _ _)
   | (with_reducible exact spec_DrawParseTag.mono _ _)
   | (with_reducible exact spec_DrawTag.mono _ _)
   | (with_reducible exact spec_FormatTag.mono _ _ _ _)
   | (with_reducible exact spec_ParseTag.mono _ _)
   | (with_reducible exact LeO.refl _)
   | (with_reducible exact LeO.none _)
   | (with_reducible refine LeO.ite ?_ ?_)
   | (with_reducible refine LeO.bind ?_ (fun _ => ?_))
   | exact ih0 _ _ _
   | exact ih1 _ _ _
   | exact impl_FormatTag.mono _ _ _ _
   | exact impl_ParseTag.mono _ _
   | exact spec_DrawFormatTag.mono _ _
   | exact spec_DrawParseTag.mono _ _
   | exact spec_DrawTag.mono _ _
   | exact spec_FormatTag.mono _ _ _ _
   | exact spec_ParseTag.mono _ _
   | exact LeO.none _
   | refine LeO.ite ?_ ?_
   | refine LeO.bind ?_ (fun _ => ?_)
theorem laws_FnTags.mono : ∀ a0 k, LeO (laws_FnTags.f k a0) (laws_FnTags.f (k + 1) a0) := by
 intro a0 k
 obtain ⟨ih0, ih1⟩ := laws_FnTags.mono_l k
 unfold laws_FnTags.f
 repeat' first
   | (with_reducible exact ih0 _ _ _)
   | (with_reducible exact ih1 _ _ _)
   | (with_reducible exact impl_FormatTag.mono _ _ _ _)
   | (with_reducible exact impl_ParseTag.mono _ _)
   | (with_reducible exact spec_DrawFormatTag.mono _ _)
   | (with_reducible exact spec_DrawParseTag.mono _ _)
   | (with_reducible exact spec_DrawTag.mono _ _)
   | (with_reducible exact spec_FormatTag.mono _ _ _ _)
   | (with_reducible exact spec_ParseTag.mono _ _)
   | (with_reducible exact LeO.refl _)
   | (with_reducible exact LeO.none _)
   | (with_reducible refine LeO.ite ?_ ?_)
   | (with_reducible refine LeO.bind ?_ (fun _ => ?_))
   | exact ih0 _ _ _
   | exact ih1 _ _ _
   | exact impl_FormatTag.mono _ _ _ _
   | exact impl_ParseTag.mono _ _
   | exact spec_DrawFormatTag.mono _ _
   | exact spec_DrawParseTag.mono _ _
   | exact spec_DrawTag.mono _ _
   | exact spec_FormatTag.mono _ _ _ _
   | exact spec_ParseTag.mono _ _
   | exact LeO.none _
   | refine LeO.ite ?_ ?_
   | refine LeO.bind ?_ (fun _ => ?_)
def laws_FnTags.T6 : Bool × List (List Nat × List Nat) := (true, [([], []), ([0], [0]), ([1], [1]), ([2], [2]), ([3], [3]), ([3], [3]), ([5, 3, 3], [3, 5]), ([4, 6, 3], [3, 4, 6]), ([3, 7], [3, 7]), ([8, 6], [8]), ([9], [9]), ([10, 9], [9, 10]), ([9, 11], [9, 11]), ([12, 9], [12]), ([13], [13]), ([13], [13]), ([14, 15, 13], [13, 14, 15]), ([13, 16], [13, 16]), ([17, 13], [17]), ([18], [18]), ([19, 18, 18], [18, 19]), ([20, 18], [18, 20]), ([18, 21], [18, 21]), ([22, 20], [22]), ([23], [23]), ([24, 23, 23], [23, 24]), ([23], [23]), ([26, 25, 23], [23, 26]), ([27, 23], [23, 27]), ([25, 28, 23], [23, 25, 28]), ([23, 29], [23, 29]), ([30, 27], [30]), ([31], [31]), ([32, 31, 31], [31, 32]), ([31], [31]), ([34, 33, 31], [31, 34]), ([33, 35, 31], [31, 33, 35]), ([31, 36], [31, 36])])
def laws_FnTags.B6 : List Nat := [0, 1, 3, 7, 15, 15, 47, 127, 255, 511, 1023, 2047, 4095, 8191, 16383, 16383, 65535, 131071, 262143, 524287, 1048575, 2097151, 4194303, 8388607, 16777215, 33554431, 16777215, 134217727, 268435455, 536870911, 1073741823, 2147483647, 4294967295, 8589934591, 4294967295, 34359738367, 68719476735, 137438953471]
theorem laws_FnTags.tab6 : rtab .any (opsOf Tryd.f9 6) = laws_FnTags.T6 := by kernel_rfl
theorem laws_FnTags.bits6 : waitsOk laws_FnTags.T6.2 laws_FnTags.B6 = true := by kernel_rfl
def laws_FnTags.T11 : Bool × List (List Nat × List Nat) := (true, [([], []), ([0], [0]), ([], []), ([2], [2]), ([3], [3]), ([4], [4]), ([1, 5], [1, 5]), ([6, 0, 1, 2, 3, 4, 5, 6], [6])])
def laws_FnTags.B11 : List Nat := [0, 1, 0, 4, 12, 28, 63, 127]
theorem laws_FnTags.tab11 : rtab .any (opsOf Tryd.f9 11) = laws_FnTags.T11 := by kernel_rfl
theorem laws_FnTags.bits11 : waitsOk laws_FnTags.T11.2 laws_FnTags.B11 = true := by kernel_rfl
def laws_FnTags.T19 : Bool × List (List Nat × List Nat) := (true, [([], []), ([0], [0]), ([], []), ([2, 1], [2]), ([1, 3], [1, 3]), ([4, 3], [4]), ([5], [5]), ([6, 5, 5], [5, 6]), ([7, 5], [5, 7]), ([5], [5]), ([9, 7, 5], [5, 9]), ([8, 10, 5], [5, 8, 10]), ([5, 11], [5, 11]), ([12, 10], [12]), ([13], [13]), ([13], [13]), ([14, 15, 13], [13, 14, 15]), ([13, 16], [13, 16]), ([17, 13], [17]), ([18], [18]), ([18], [18]), ([19, 20, 18], [18, 19, 20]), ([18, 21], [18, 21]), ([22, 18], [22]), ([23], [23]), ([24, 23], [23, 24]), ([25, 23, 23], [23, 25]), ([26], [26]), ([27, 26, 26], [26, 27]), ([26], [26]), ([28, 29, 26], [26, 28, 29]), ([26, 30, 23], [23, 26, 30]), ([23, 31], [23, 31]), ([32, 28, 0, 1, 2, 3, 4, 5, 6, 7, 8, 9, 10, 11, 12, 13, 14, 15, 16, 17, 18, 19, 20, 21, 22, 23, 24, 25, 26, 27, 28, 29, 30, 31, 32], [32])])
def laws_FnTags.B19 : List Nat := [0, 1, 0, 7, 15, 31, 63, 127, 255, 63, 767, 2047, 4095, 8191, 16383, 16383, 65535, 131071, 262143, 524287, 524287, 2097151, 4194303, 8388607, 16777215, 33554431, 67108863, 134217727, 268435455, 134217727, 1073741823, 2147483647, 4294967295, 8589934591]
theorem laws_FnTags.tab19 : rtab .any (opsOf Tryd.f9 19) = laws_FnTags.T19 := by kernel_rfl
theorem laws_FnTags.bits19 : waitsOk laws_FnTags.T19.2 laws_FnTags.B19 = true := by kernel_rfl
set_option maxHeartbeats 8000000 in
set_option maxRecDepth 100000 in
theorem laws_FnTags.calls (k : Nat) (A0 : Option Addr) (c0 : Nat) (l0 : List Int) (w : World) (hr0 : Kd.C (Kd.int .u8) w A0 l0.length l0) (hc0 : l0.length ≤ c0) (htab : Tab1 Tryd.prog w) (h : laws_FnTags.f k l0 = some true) :
  Calls Tryd.prog 9 #[.slice A0 l0.length c0] w fun e w' => e = .returned (.bool true) ∧ Below w.heap.size w w' := by
 have hu25 := Tryd.underlying25
 have HR0 := uD hr0
 have HC0 := uD hc0
 clear hr0 hc0
 have HB := uD (Below.refl w.heap.size w)
 have HTAB := uD htab
 clear htab
 have H : ((laws_big.f l0).bind fun t308 => (if t308 = true then (some true) else ((spec_DrawTag.f k l0).bind fun bt309 => ((impl_FormatTag.f k bt309.1 bt309.2.1 bt309.2.2).bind fun t313 => ((impl_ParseTag.f k t313).bind fun bt314 => (if (t313.size : Int) = 12 then ((spec_FormatTag.f k bt309.1 bt309.2.1 bt309.2.2).bind fun t319 => (if t313.toList = t319.toList then (if bt314.2.2.2 = true then (if (!(bt314.1 == bt309.1) || (!(bt314.2.1 == bt309.2.1) || (!(bt314.2.2.1 == bt309.2.2)))) = true then (laws_FnTags.j0 k l0 t313 true) else ((impl_TagOk.f bt309.1 bt309.2.1 bt309.2.2).bind fun t320 => (if t320 = true then ((impl_TagCheck.f bt309.1 bt309.2.1 bt309.2.2).bind fun t321 => ((spec_TagNumber.f bt309.1 bt309.2.1 bt309.2.2).bind fun t322 => (if t321 = (Int.tmod t322 7) then ((impl_TagNumber.f bt309.1 bt309.2.1 bt309.2.2).bind fun t323 => ((spec_TagNumber.f bt309.1 bt309.2.1 bt309.2.2).bind fun t324 => (laws_FnTags.j0 k l0 t313 (t323 != t324)))) else (laws_FnTags.j0 k l0 t313 true)))) else (laws_FnTags.j0 k l0 t313 true)))) else (laws_FnTags.j0 k l0 t313 true)) else (laws_FnTags.j0 k l0 t313 true))) else (laws_FnTags.j0 k l0 t313 true))))))) = some true := h
 clear h
 replace H := Option.bind_eq_some_iff.mp H
 obtain ⟨t308, A20, H⟩ := H
 replace H : (if t308 = true then (some true) else ((spec_DrawTag.f k l0).bind fun bt309 => ((impl_FormatTag.f k bt309.1 bt309.2.1 bt309.2.2).bind fun t313 => ((impl_ParseTag.f k t313).bind fun bt314 => (if (t313.size : Int) = 12 then ((spec_FormatTag.f k bt309.1 bt309.2.1 bt309.2.2).bind fun t319 => (if t313.toList = t319.toList then (if bt314.2.2.2 = true then (if (!(bt314.1 == bt309.1) || (!(bt314.2.1 == bt309.2.1) || (!(bt314.2.2.1 == bt309.2.2)))) = true then (laws_FnTags.j0 k l0 t313 true) else ((impl_TagOk.f bt309.1 bt309.2.1 bt309.2.2).bind fun t320 => (if t320 = true then ((impl_TagCheck.f bt309.1 bt309.2.1 bt309.2.2).bind fun t321 => ((spec_TagNumber.f bt309.1 bt309.2.1 bt309.2.2).bind fun t322 => (if t321 = (Int.tmod t322 7) then ((impl_TagNumber.f bt309.1 bt309.2.1 bt309.2.2).bind fun t323 => ((spec_TagNumber.f bt309.1 bt309.2.1 bt309.2.2).bind fun t324 => (laws_FnTags.j0 k l0 t313 (t323 != t324)))) else (laws_FnTags.j0 k l0 t313 true)))) else (laws_FnTags.j0 k l0 t313 true)))) else (laws_FnTags.j0 k l0 t313 true)) else (laws_FnTags.j0 k l0 t313 true))) else (laws_FnTags.j0 k l0 t313 true)))))) = some true := H
 have A2 := uD A20
 clear A20
 by_cases c3 : t308 = true
 ·subst c3
  have H1 : (some true) = some true := by rw [if_pos rfl] at H; first | done | exact H
  clear H
  have H := H1
  clear H1
  have HT := Option.some.inj H
  clear H
  go_enter Tryd.func9, Tryd.ntmps9
  go_wp2_with (first | ((with_reducible refine gate_callee (f := 25) rfl ?_); refine gl (some 18) Tryd.func25 #[.slice A0 l0.length c0] ?_; (with_reducible refine (laws_big.calls _ _ l0 true _ ?side1 ?side2 A2.out).mono ?_); (case side1 => exact pc HR0.out); (case side2 => exact HC0.out); rintro e w' ⟨rfl, ⟨nd, rfl⟩⟩; refine ⟨_, rfl, ?_⟩))
  go_ret
  exact ⟨by first | rfl | (simp [errW_none, errW_some] <;> rfl) | (simp [*, errW_none, errW_some] <;> rfl), pb HB⟩
 ·replace c3 := Bool.eq_false_iff.mpr c3
  subst c3
  have H1 : ((spec_DrawTag.f k l0).bind fun bt309 => ((impl_FormatTag.f k bt309.1 bt309.2.1 bt309.2.2).bind fun t313 => ((impl_ParseTag.f k t313).bind fun bt314 => (if (t313.size : Int) = 12 then ((spec_FormatTag.f k bt309.1 bt309.2.1 bt309.2.2).bind fun t319 => (if t313.toList = t319.toList then (if bt314.2.2.2 = true then (if (!(bt314.1 == bt309.1) || (!(bt314.2.1 == bt309.2.1) || (!(bt314.2.2.1 == bt309.2.2)))) = true then (laws_FnTags.j0 k l0 t313 true) else ((impl_TagOk.f bt309.1 bt309.2.1 bt309.2.2).bind fun t320 => (if t320 = true then ((impl_TagCheck.f bt309.1 bt309.2.1 bt309.2.2).bind fun t321 => ((spec_TagNumber.f bt309.1 bt309.2.1 bt309.2.2).bind fun t322 => (if t321 = (Int.tmod t322 7) then ((impl_TagNumber.f bt309.1 bt309.2.1 bt309.2.2).bind fun t323 => ((spec_TagNumber.f bt309.1 bt309.2.1 bt309.2.2).bind fun t324 => (laws_FnTags.j0 k l0 t313 (t323 != t324)))) else (laws_FnTags.j0 k l0 t313 true)))) else (laws_FnTags.j0 k l0 t313 true)))) else (laws_FnTags.j0 k l0 t313 true)) else (laws_FnTags.j0 k l0 t313 true))) else (laws_FnTags.j0 k l0 t313 true))))) = some true := by rw [if_neg (show ¬ (false = true) by decide)] at H; first | done | exact H
  clear H
  have H := H1
  clear H1
  replace H := Option.bind_eq_some_iff.mp H
  obtain ⟨⟨t309, t310, t311⟩, A40, H⟩ := H
  replace H : ((impl_FormatTag.f k t309 t310 t311).bind fun t313 => ((impl_ParseTag.f k t313).bind fun bt314 => (if (t313.size : Int) = 12 then ((spec_FormatTag.f k t309 t310 t311).bind fun t319 => (if t313.toList = t319.toList then (if bt314.2.2.2 = true then (if (!(bt314.1 == t309) || (!(bt314.2.1 == t310) || (!(bt314.2.2.1 == t311)))) = true then (laws_FnTags.j0 k l0 t313 true) else ((impl_TagOk.f t309 t310 t311).bind fun t320 => (if t320 = true then ((impl_TagCheck.f t309 t310 t311).bind fun t321 => ((spec_TagNumber.f t309 t310 t311).bind fun t322 => (if t321 = (Int.tmod t322 7) then ((impl_TagNumber.f t309 t310 t311).bind fun t323 => ((spec_TagNumber.f t309 t310 t311).bind fun t324 => (laws_FnTags.j0 k l0 t313 (t323 != t324)))) else (laws_FnTags.j0 k l0 t313 true)))) else (laws_FnTags.j0 k l0 t313 true)))) else (laws_FnTags.j0 k l0 t313 true)) else (laws_FnTags.j0 k l0 t313 true))) else (laws_FnTags.j0 k l0 t313 true)))) = some true := H
  have A4 := uD A40
  clear A40
  replace H := Option.bind_eq_some_iff.mp H
  obtain ⟨t313, A50, H⟩ := H
  replace H : ((impl_ParseTag.f k t313).bind fun bt314 => (if (t313.size : Int) = 12 then ((spec_FormatTag.f k t309 t310 t311).bind fun t319 => (if t313.toList = t319.toList then (if bt314.2.2.2 = true then (if (!(bt314.1 == t309) || (!(bt314.2.1 == t310) || (!(bt314.2.2.1 == t311)))) = true then (laws_FnTags.j0 k l0 t313 true) else ((impl_TagOk.f t309 t310 t311).bind fun t320 => (if t320 = true then ((impl_TagCheck.f t309 t310 t311).bind fun t321 => ((spec_TagNumber.f t309 t310 t311).bind fun t322 => (if t321 = (Int.tmod t322 7) then ((impl_TagNumber.f t309 t310 t311).bind fun t323 => ((spec_TagNumber.f t309 t310 t311).bind fun t324 => (laws_FnTags.j0 k l0 t313 (t323 != t324)))) else (laws_FnTags.j0 k l0 t313 true)))) else (laws_FnTags.j0 k l0 t313 true)))) else (laws_FnTags.j0 k l0 t313 true)) else (laws_FnTags.j0 k l0 t313 true))) else (laws_FnTags.j0 k l0 t313 true))) = some true := H
  have A5 := uD A50
  clear A50
  replace H := Option.bind_eq_some_iff.mp H
  obtain ⟨⟨t314, t315, t316, t317⟩, A60, H⟩ := H
  replace H : (if (t313.size : Int) = 12 then ((spec_FormatTag.f k t309 t310 t311).bind fun t319 => (if t313.toList = t319.toList then (if t317 = true then (if (!(t314 == t309) || (!(t315 == t310) || (!(t316 == t311)))) = true then (laws_FnTags.j0 k l0 t313 true) else ((impl_TagOk.f t309 t310 t311).bind fun t320 => (if t320 = true then ((impl_TagCheck.f t309 t310 t311).bind fun t321 => ((spec_TagNumber.f t309 t310 t311).bind fun t322 => (if t321 = (Int.tmod t322 7) then ((impl_TagNumber.f t309 t310 t311).bind fun t323 => ((spec_TagNumber.f t309 t310 t311).bind fun t324 => (laws_FnTags.j0 k l0 t313 (t323 != t324)))) else (laws_FnTags.j0 k l0 t313 true)))) else (laws_FnTags.j0 k l0 t313 true)))) else (laws_FnTags.j0 k l0 t313 true)) else (laws_FnTags.j0 k l0 t313 true))) else (laws_FnTags.j0 k l0 t313 true)) = some true := H
  have A6 := uD A60
  clear A60
  have HC7 := uD H
  clear H
  go_enter Tryd.func9, Tryd.ntmps9
  go_upto_region 6 with (first | ((with_reducible refine gate_callee (f := 25) rfl ?_); refine gl (some 18) Tryd.func25 #[.slice A0 l0.length c0] ?_; (with_reducible refine (laws_big.calls _ _ l0 false _ ?side1 ?side2 A2.out).mono ?_); (case side1 => exact pc HR0.out); (case side2 => exact HC0.out); rintro e w' ⟨rfl, ⟨nd, rfl⟩⟩; refine ⟨_, rfl, ?_⟩) | ((with_reducible refine gate_callee (f := 32) rfl ?_); refine gl (some 20) Tryd.func32 #[.slice A0 l0.length c0] ?_; (with_reducible refine (spec_DrawTag.calls k _ _ l0 t309 t310 t311 _ ?side1 ?side2 A4.out).mono ?_); (case side1 => exact pc HR0.out); (case side2 => exact HC0.out); rintro e w8 ⟨rfl, hb⟩; refine ⟨_, rfl, ?_⟩; replace HB := uD (uO (pb HB) hb); (try clear hb); (try clear hb2); (try clear hk); (try clear hi)) | ((with_reducible refine gate_dst (N := 3) rfl ?_); refine bx 3 #[.int .i64 0, .int .i64 0, .int .i64 0] 25 ?_; intro gb312 hg w9 hbox hb; have BK312 := uD (hbox); have GW312 := uD ((by rw [hg]; exact (uN (pb HB)) : w.heap.size ≤ gb312)); have GE312 := uD ((by rw [hg]; exact (uN (pb HB)) : w.heap.size ≤ gb312)); replace HB := uD (uO (pb HB) hb); clear hb hbox hg; obtain ⟨hcz10_0, hcz10_1, hcz10_2, hfz10_0, hfz10_1, hfz10_2⟩ := cz3 BK312) | ((with_reducible refine gate_callee (f := 14) rfl ?_); refine gl (some 22) Tryd.func14 #[.agg #[.int .i64 t309, .int .i64 t310, .int .i64 t311]] ?_; (with_reducible refine (impl_FormatTag.calls k t309 t310 t311 t313 _ ?side1 A5.out).mono ?_); (case side1 => exact tb11 HTAB (pb HB)); rintro e w11 ⟨rfl, hb⟩; refine ⟨_, rfl, ?_⟩; replace BK312 := uD (blk_below (g := gb312) (o := .cells #[.int .i64 t309, .int .i64 t310, .int .i64 t311] 25 (0, 0)) (by (with_reducible repeat first|apply uH|apply uJ|apply uG); refine uP (cs := #[.int .i64 t309, .int .i64 t310, .int .i64 0]) ?_ 2 _ rfl; (with_reducible repeat first|apply uH|apply uJ|apply uG); refine uP (cs := #[.int .i64 t309, .int .i64 0, .int .i64 0]) ?_ 1 _ rfl; (with_reducible repeat first|apply uH|apply uJ|apply uG); refine uP (cs := #[.int .i64 0, .int .i64 0, .int .i64 0]) ?_ 0 _ rfl; (with_reducible repeat first|apply uH|apply uJ|apply uG); exact BK312.out) hb); replace HB := uD (uO (pb HB) hb); (try clear hb); (try clear hb2); (try clear hk); (try clear hi)) | ((with_reducible refine gate_callee (f := 16) rfl ?_); refine gl (some 25) Tryd.func16 #[.string t313] ?_; (with_reducible refine (impl_ParseTag.calls k t313 t314 t315 t316 t317 _ ?side1 A6.out).mono ?_); (case side1 => exact tb11 HTAB (pb HB)); rintro e w12 ⟨rfl, hb⟩; refine ⟨_, rfl, ?_⟩; replace BK312 := uD (blk_below (pk BK312) hb); replace HB := uD (uO (pb HB) hb); (try clear hb); (try clear hb2); (try clear hk); (try clear hi)) | ((with_reducible refine gate_dst (N := 5) rfl ?_); refine bx 5 #[.int .i64 0, .int .i64 0, .int .i64 0] 25 ?_; intro gb318 hg w13 hbox hb; have BK318 := uD (hbox); have GW318 := uD ((by rw [hg]; exact (uN (pb HB)) : w.heap.size ≤ gb318)); have GE318 := uD ((by rw [hg]; exact (uN (pb HB)) : w.heap.size ≤ gb318)); replace HB := uD (uO (pb HB) hb); have NB312_318 := uD ((by rw [hg]; exact Nat.ne_of_lt (blk_lt (pk BK312)) : gb312 ≠ gb318)); have NB318_312 := uD ((by rw [hg]; exact Nat.ne_of_gt (blk_lt (pk BK312)) : gb318 ≠ gb312)); replace BK312 := uD (blk_below (pk BK312) hb); clear hb hbox hg; have hnb14 := NB318_312.out; have hnc14 := NB312_318.out; obtain ⟨hcz15_0, hcz15_1, hcz15_2, hfz15_0, hfz15_1, hfz15_2⟩ := cz3 BK318))
  (try simp only [uc, uA, uB, uC])
  go_cut [65] (fun v65 wc => ∃ (kq : Nat) (x65_6 : Bool), v65 = .bool x65_6 ∧ Aside0 (laws_FnTags.j0 kq l0 t313 x65_6 = some true) ∧ Aside0 (kq ≤ k) ∧ Aside0 (wc.heap[gb312]? = some (.cells #[.int .i64 t309, .int .i64 t310, .int .i64 t311] 25 (0, 0))) ∧ Aside0 (wc.heap[gb318]? = some (.cells #[.int .i64 t314, .int .i64 t315, .int .i64 t316] 25 (0, 0))) ∧ Aside0 (Below w.heap.size w wc))
  case first =>
   have H := HC7.out
   clear HC7
   by_cases c16 : (t313.size : Int) = 12
   ·rw [if_pos c16] at H
    have c16b0 : ((t313.size : Int) == 12) = true := beq_iff_eq.mpr c16
    have c16b1 : ((t313.size : Int) != 12) = false := bne_eq_false_iff_eq.mpr c16
    clear c16
    (first | rw [c16b0] | (simp only [uZ, ua]; rw [c16b0]) | skip)
    replace H := Option.bind_eq_some_iff.mp H
    obtain ⟨t319, A170, H⟩ := H
    replace H : (if t313.toList = t319.toList then (if t317 = true then (if (!(t314 == t309) || (!(t315 == t310) || (!(t316 == t311)))) = true then (laws_FnTags.j0 k l0 t313 true) else ((impl_TagOk.f t309 t310 t311).bind fun t320 => (if t320 = true then ((impl_TagCheck.f t309 t310 t311).bind fun t321 => ((spec_TagNumber.f t309 t310 t311).bind fun t322 => (if t321 = (Int.tmod t322 7) then ((impl_TagNumber.f t309 t310 t311).bind fun t323 => ((spec_TagNumber.f t309 t310 t311).bind fun t324 => (laws_FnTags.j0 k l0 t313 (t323 != t324)))) else (laws_FnTags.j0 k l0 t313 true)))) else (laws_FnTags.j0 k l0 t313 true)))) else (laws_FnTags.j0 k l0 t313 true)) else (laws_FnTags.j0 k l0 t313 true)) = some true := H
    have A17 := uD A170
    clear A170
    by_cases c18 : t313.toList = t319.toList
    ·rw [if_pos c18] at H
     have c18b0 : (t313.toList == t319.toList) = true := beq_iff_eq.mpr c18
     have c18b1 : (t313.toList != t319.toList) = false := bne_eq_false_iff_eq.mpr c18
     clear c18
     by_cases c19 : t317 = true
     ·subst c19
      have H1 : (if (!(t314 == t309) || (!(t315 == t310) || (!(t316 == t311)))) = true then (laws_FnTags.j0 k l0 t313 true) else ((impl_TagOk.f t309 t310 t311).bind fun t320 => (if t320 = true then ((impl_TagCheck.f t309 t310 t311).bind fun t321 => ((spec_TagNumber.f t309 t310 t311).bind fun t322 => (if t321 = (Int.tmod t322 7) then ((impl_TagNumber.f t309 t310 t311).bind fun t323 => ((spec_TagNumber.f t309 t310 t311).bind fun t324 => (laws_FnTags.j0 k l0 t313 (t323 != t324)))) else (laws_FnTags.j0 k l0 t313 true)))) else (laws_FnTags.j0 k l0 t313 true)))) = some true := by rw [if_pos rfl] at H; first | done | exact H
      clear H
      have H := H1
      clear H1
      by_cases c20 : (!(t314 == t309) || (!(t315 == t310) || (!(t316 == t311)))) = true
      ·rw [if_pos c20] at H
       have c20b0 : (!(t314 == t309) || (!(t315 == t310) || (!(t316 == t311)))) = true := c20
       clear c20
       exact absurd H (by cases k <;> simp [laws_FnTags.j0])
      ·rw [if_neg c20] at H
       have c20b0 : (!(t314 == t309) || (!(t315 == t310) || (!(t316 == t311)))) = false := by simpa using c20
       clear c20
       replace H := Option.bind_eq_some_iff.mp H
       obtain ⟨t320, A210, H⟩ := H
       replace H : (if t320 = true then ((impl_TagCheck.f t309 t310 t311).bind fun t321 => ((spec_TagNumber.f t309 t310 t311).bind fun t322 => (if t321 = (Int.tmod t322 7) then ((impl_TagNumber.f t309 t310 t311).bind fun t323 => ((spec_TagNumber.f t309 t310 t311).bind fun t324 => (laws_FnTags.j0 k l0 t313 (t323 != t324)))) else (laws_FnTags.j0 k l0 t313 true)))) else (laws_FnTags.j0 k l0 t313 true)) = some true := H
       have A21 := uD A210
       clear A210
       by_cases c22 : t320 = true
       ·subst c22
        have H1 : ((impl_TagCheck.f t309 t310 t311).bind fun t321 => ((spec_TagNumber.f t309 t310 t311).bind fun t322 => (if t321 = (Int.tmod t322 7) then ((impl_TagNumber.f t309 t310 t311).bind fun t323 => ((spec_TagNumber.f t309 t310 t311).bind fun t324 => (laws_FnTags.j0 k l0 t313 (t323 != t324)))) else (laws_FnTags.j0 k l0 t313 true)))) = some true := by rw [if_pos rfl] at H; first | done | exact H
        clear H
        have H := H1
        clear H1
        replace H := Option.bind_eq_some_iff.mp H
        obtain ⟨t321, A230, H⟩ := H
        replace H : ((spec_TagNumber.f t309 t310 t311).bind fun t322 => (if t321 = (Int.tmod t322 7) then ((impl_TagNumber.f t309 t310 t311).bind fun t323 => ((spec_TagNumber.f t309 t310 t311).bind fun t324 => (laws_FnTags.j0 k l0 t313 (t323 != t324)))) else (laws_FnTags.j0 k l0 t313 true))) = some true := H
        have A23 := uD A230
        clear A230
        replace H := Option.bind_eq_some_iff.mp H
        obtain ⟨t322, A240, H⟩ := H
        replace H : (if t321 = (Int.tmod t322 7) then ((impl_TagNumber.f t309 t310 t311).bind fun t323 => ((spec_TagNumber.f t309 t310 t311).bind fun t324 => (laws_FnTags.j0 k l0 t313 (t323 != t324)))) else (laws_FnTags.j0 k l0 t313 true)) = some true := H
        have A24 := uD A240
        clear A240
        by_cases c25 : t321 = (Int.tmod t322 7)
        ·rw [if_pos c25] at H
         have c25b0 : (t321 == (Int.tmod t322 7)) = true := beq_iff_eq.mpr c25
         have c25b1 : (t321 != (Int.tmod t322 7)) = false := bne_eq_false_iff_eq.mpr c25
         clear c25
         replace H := Option.bind_eq_some_iff.mp H
         obtain ⟨t323, A260, H⟩ := H
         replace H : ((spec_TagNumber.f t309 t310 t311).bind fun t324 => (laws_FnTags.j0 k l0 t313 (t323 != t324))) = some true := H
         have A26 := uD A260
         clear A260
         replace H := Option.bind_eq_some_iff.mp H
         obtain ⟨t324, A270, H⟩ := H
         replace H : (laws_FnTags.j0 k l0 t313 (t323 != t324)) = some true := H
         have A27 := uD A270
         clear A270
         have H' := uD H
         clear H
         try go_wp2
         have n0_ : Aside0 ((((w13.setCell ⟨gb318, 0, none⟩ (.int .i64 t314)).setCell ⟨gb318, 1, none⟩ (.int .i64 t315)).setCell ⟨gb318, 2, none⟩ (.int .i64 t316)).heap[gb312]? = some (.cells #[.int .i64 t309, .int .i64 t310, .int .i64 t311] 25 (0, 0))) := ⟨by exact ps BK312⟩
         have n1_ : Aside0 ((((w13.setCell ⟨gb318, 0, none⟩ (.int .i64 t314)).setCell ⟨gb318, 1, none⟩ (.int .i64 t315)).setCell ⟨gb318, 2, none⟩ (.int .i64 t316)).heap[gb318]? = some (.cells #[.int .i64 t314, .int .i64 t315, .int .i64 t316] 25 (0, 0))) := ⟨by (with_reducible repeat first|apply uH|apply uJ|apply uG); refine uP (cs := #[.int .i64 t314, .int .i64 t315, .int .i64 0]) ?_ 2 _ rfl; (with_reducible repeat first|apply uH|apply uJ|apply uG); refine uP (cs := #[.int .i64 t314, .int .i64 0, .int .i64 0]) ?_ 1 _ rfl; (with_reducible repeat first|apply uH|apply uJ|apply uG); refine uP (cs := #[.int .i64 0, .int .i64 0, .int .i64 0]) ?_ 0 _ rfl; (with_reducible repeat first|apply uH|apply uJ|apply uG); exact BK318.out⟩
         have n2_ : Aside0 (Below w.heap.size w (((w13.setCell ⟨gb318, 0, none⟩ (.int .i64 t314)).setCell ⟨gb318, 1, none⟩ (.int .i64 t315)).setCell ⟨gb318, 2, none⟩ (.int .i64 t316))) := ⟨pb HB⟩
         (try clear BK312)
         (try clear BK318)
         (try clear HB)
         generalize (((w13.setCell ⟨gb318, 0, none⟩ (.int .i64 t314)).setCell ⟨gb318, 1, none⟩ (.int .i64 t315)).setCell ⟨gb318, 2, none⟩ (.int .i64 t316)) = w28 at n0_ n1_ n2_ ⊢
         have BK312 := n0_
         have BK318 := n1_
         have HB := n2_
         clear n0_ n1_ n2_
         replace BK312 := uD (uJ BK312.out)
         replace BK318 := uD (uJ BK318.out)
         replace HB := uD (uK HB.out)
         refine start_ (n := 38) (S := fun w' => w'.cell? ⟨gb312, 0, none⟩ = some (.int .i64 t309) ∧ w'.cell? ⟨gb312, 1, none⟩ = some (.int .i64 t310) ∧ w'.cell? ⟨gb312, 2, none⟩ = some (.int .i64 t311) ∧ w'.cell? ⟨gb318, 0, none⟩ = some (.int .i64 t314) ∧ w'.cell? ⟨gb318, 1, none⟩ = some (.int .i64 t315) ∧ w'.cell? ⟨gb318, 2, none⟩ = some (.int .i64 t316)) (ds := []) #[F,F,F,F,F,F,F,F,F,F,F,F,F,F,F,F,F,F,F,F,F,F,F,F,F,F,F,F,F,F,F,F,F,F,F,F,F,F] (by kernel_rfl) rfl rfl ⟨(uF BK312.out 0).trans rfl, (uF BK312.out 1).trans rfl, (uF BK312.out 2).trans rfl, (uF BK318.out 0).trans rfl, (uF BK318.out 1).trans rfl, (uF BK318.out 2).trans rfl⟩ (fun hHeld => ?_); refine with_tabW laws_FnTags.tab6 laws_FnTags.bits6 (fun HT_ HW_ => ?_)
         generalize w28.drew = w29 at BK312 BK318 HB hHeld ⊢
         refine pu 0 (some 28) #[T,F,F,F,F,F,F,F,F,F,F,F,F,F,F,F,F,F,F,F,F,F,F,F,F,F,F,F,F,F,F,F,F,F,F,F,F,F] HT_ ?_
         refine pu 1 (some 29) #[T,T,F,F,F,F,F,F,F,F,F,F,F,F,F,F,F,F,F,F,F,F,F,F,F,F,F,F,F,F,F,F,F,F,F,F,F,F] HT_ ?_
         refine pu 2 (some 30) #[T,T,T,F,F,F,F,F,F,F,F,F,F,F,F,F,F,F,F,F,F,F,F,F,F,F,F,F,F,F,F,F,F,F,F,F,F,F] HT_ ?_
         refine pu 3 (some 31) #[T,T,T,T,F,F,F,F,F,F,F,F,F,F,F,F,F,F,F,F,F,F,F,F,F,F,F,F,F,F,F,F,F,F,F,F,F,F] HT_ ?_
         refine pu 4 (some 32) #[T,T,T,T,T,F,F,F,F,F,F,F,F,F,F,F,F,F,F,F,F,F,F,F,F,F,F,F,F,F,F,F,F,F,F,F,F,F] HT_ ?_
         refine tk 5 (some 33) #[T,T,T,T,T,T,F,F,F,F,F,F,F,F,F,F,F,F,F,F,F,F,F,F,F,F,F,F,F,F,F,F,F,F,F,F,F,F] HT_ HW_ hHeld ?_
         refine one_ (i := 6) (N := some 34) #[T,T,T,T,T,T,T,F,F,F,F,F,F,F,F,F,F,F,F,F,F,F,F,F,F,F,F,F,F,F,F,F,F,F,F,F,F,F] rfl rfl (one_of HT_.out (by kernel_rfl)) (by decide) (fun K hK => ?_)
         refine goes_ Tryd.func12 (by kernel_rfl) rfl #[.agg #[.int .i64 t309, .int .i64 t310, .int .i64 t311]] (by rfl) rfl rfl (by (try simp only [List.map_toArray, List.map_cons, List.map_nil]); first | done | rfl | (simp only [List.length_drop, List.length_take]; rfl)) ?_
         with_reducible refine (spec_FormatTag.calls k t309 t310 t311 t319 _ A17.out).mono ?_
         rintro e w30 ⟨rfl, hb⟩
         refine ⟨_, rfl, ?_⟩
         replace BK312 := uD (blk_below (pk BK312) hb)
         replace BK318 := uD (blk_below (pk BK318) hb)
         replace HB := uD (uO (pb HB) hb)
         (try clear hb)
         (try clear hb2)
         (try clear hk)
         (try clear hi)
         refine hK.out _ _ ⟨(uF BK312.out 0).trans rfl, (uF BK312.out 1).trans rfl, (uF BK312.out 2).trans rfl, (uF BK318.out 0).trans rfl, (uF BK318.out 1).trans rfl, (uF BK318.out 2).trans rfl⟩ (fun hHeld => ?_)
         clear hK K
         refine norm_ (a' := ?_) ?_ ?_
         rotate_left
         ·show uc _ (some 34) _ = _
          simp only [uc, uA, uB, uC, uZ, ua]
          rfl
         refine pu 7 (some 35) #[T,T,T,T,T,T,T,T,F,F,F,F,F,F,F,F,F,F,F,F,F,F,F,F,F,F,F,F,F,F,F,F,F,F,F,F,F,F] HT_ ?_
         refine pu 8 (some 36) #[T,T,T,T,T,T,T,T,T,F,F,F,F,F,F,F,F,F,F,F,F,F,F,F,F,F,F,F,F,F,F,F,F,F,F,F,F,F] HT_ ?_
         refine pu 9 (some 37) #[T,T,T,T,T,T,T,T,T,T,F,F,F,F,F,F,F,F,F,F,F,F,F,F,F,F,F,F,F,F,F,F,F,F,F,F,F,F] HT_ ?_
         refine pu 10 (some 38) #[T,T,T,T,T,T,T,T,T,T,T,F,F,F,F,F,F,F,F,F,F,F,F,F,F,F,F,F,F,F,F,F,F,F,F,F,F,F] HT_ ?_
         refine pu 11 (some 39) #[T,T,T,T,T,T,T,T,T,T,T,T,F,F,F,F,F,F,F,F,F,F,F,F,F,F,F,F,F,F,F,F,F,F,F,F,F,F] HT_ ?_
         refine pu 12 (some 40) #[T,T,T,T,T,T,T,T,T,T,T,T,T,F,F,F,F,F,F,F,F,F,F,F,F,F,F,F,F,F,F,F,F,F,F,F,F,F] HT_ ?_
         refine pu 13 (some 41) #[T,T,T,T,T,T,T,T,T,T,T,T,T,T,F,F,F,F,F,F,F,F,F,F,F,F,F,F,F,F,F,F,F,F,F,F,F,F] HT_ ?_
         refine tk 14 (some 42) #[T,T,T,T,T,T,T,T,T,T,T,T,T,T,T,F,F,F,F,F,F,F,F,F,F,F,F,F,F,F,F,F,F,F,F,F,F,F] HT_ HW_ hHeld ?_
         refine tk 15 (some 43) #[T,T,T,T,T,T,T,T,T,T,T,T,T,T,T,T,F,F,F,F,F,F,F,F,F,F,F,F,F,F,F,F,F,F,F,F,F,F] HT_ HW_ hHeld ?_
         refine pu 16 (some 44) #[T,T,T,T,T,T,T,T,T,T,T,T,T,T,T,T,T,F,F,F,F,F,F,F,F,F,F,F,F,F,F,F,F,F,F,F,F,F] HT_ ?_
         refine pu 17 (some 45) #[T,T,T,T,T,T,T,T,T,T,T,T,T,T,T,T,T,T,F,F,F,F,F,F,F,F,F,F,F,F,F,F,F,F,F,F,F,F] HT_ ?_
         refine pu 18 (some 46) #[T,T,T,T,T,T,T,T,T,T,T,T,T,T,T,T,T,T,T,F,F,F,F,F,F,F,F,F,F,F,F,F,F,F,F,F,F,F] HT_ ?_
         refine tk 19 (some 47) #[T,T,T,T,T,T,T,T,T,T,T,T,T,T,T,T,T,T,T,T,F,F,F,F,F,F,F,F,F,F,F,F,F,F,F,F,F,F] HT_ HW_ hHeld ?_
         refine one_ (i := 20) (N := some 48) #[T,T,T,T,T,T,T,T,T,T,T,T,T,T,T,T,T,T,T,T,T,F,F,F,F,F,F,F,F,F,F,F,F,F,F,F,F,F] rfl rfl (one_of HT_.out (by kernel_rfl)) (by decide) (fun K hK => ?_)
         refine goes_ Tryd.func33 (by kernel_rfl) rfl #[.agg #[.int .i64 t309, .int .i64 t310, .int .i64 t311]] (by rfl) rfl rfl (by (try simp only [List.map_toArray, List.map_cons, List.map_nil]); first | done | rfl | (simp only [List.length_drop, List.length_take]; rfl)) ?_
         with_reducible refine (impl_TagOk.calls t309 t310 t311 true _ A21.out).mono ?_
         rintro e w31 ⟨rfl, hb⟩
         refine ⟨_, rfl, ?_⟩
         replace BK312 := uD (blk_below (pk BK312) hb)
         replace BK318 := uD (blk_below (pk BK318) hb)
         replace HB := uD (uO (pb HB) hb)
         (try clear hb)
         (try clear hb2)
         (try clear hk)
         (try clear hi)
         refine hK.out _ _ ⟨(uF BK312.out 0).trans rfl, (uF BK312.out 1).trans rfl, (uF BK312.out 2).trans rfl, (uF BK318.out 0).trans rfl, (uF BK318.out 1).trans rfl, (uF BK318.out 2).trans rfl⟩ (fun hHeld => ?_)
         clear hK K
         refine norm_ (a' := ?_) ?_ ?_
         rotate_left
         ·show uc _ (some 48) _ = _
          simp only [uc, uA, uB, uC, uZ, ua]
          rfl
         refine pu 21 (some 49) #[T,T,T,T,T,T,T,T,T,T,T,T,T,T,T,T,T,T,T,T,T,T,F,F,F,F,F,F,F,F,F,F,F,F,F,F,F,F] HT_ ?_
         refine pu 22 (some 50) #[T,T,T,T,T,T,T,T,T,T,T,T,T,T,T,T,T,T,T,T,T,T,T,F,F,F,F,F,F,F,F,F,F,F,F,F,F,F] HT_ ?_
         refine pu 23 (some 51) #[T,T,T,T,T,T,T,T,T,T,T,T,T,T,T,T,T,T,T,T,T,T,T,T,F,F,F,F,F,F,F,F,F,F,F,F,F,F] HT_ ?_
         refine tk 24 (some 52) #[T,T,T,T,T,T,T,T,T,T,T,T,T,T,T,T,T,T,T,T,T,T,T,T,T,F,F,F,F,F,F,F,F,F,F,F,F,F] HT_ HW_ hHeld ?_
         refine tk 26 (some 54) #[T,T,T,T,T,T,T,T,T,T,T,T,T,T,T,T,T,T,T,T,T,T,T,T,T,F,T,F,F,F,F,F,F,F,F,F,F,F] HT_ HW_ hHeld ?_
         refine one_ (i := 25) (N := some 53) #[T,T,T,T,T,T,T,T,T,T,T,T,T,T,T,T,T,T,T,T,T,T,T,T,T,T,T,F,F,F,F,F,F,F,F,F,F,F] rfl rfl (one_of HT_.out (by kernel_rfl)) (by decide) (fun K hK => ?_)
         refine goes_ Tryd.func34 (by kernel_rfl) rfl #[.agg #[.int .i64 t309, .int .i64 t310, .int .i64 t311]] (by rfl) rfl rfl (by (try simp only [List.map_toArray, List.map_cons, List.map_nil]); first | done | rfl | (simp only [List.length_drop, List.length_take]; rfl)) ?_
         with_reducible refine (impl_TagCheck.calls t309 t310 t311 t321 _ A23.out).mono ?_
         rintro e w32 ⟨rfl, hb⟩
         refine ⟨_, rfl, ?_⟩
         replace BK312 := uD (blk_below (pk BK312) hb)
         replace BK318 := uD (blk_below (pk BK318) hb)
         replace HB := uD (uO (pb HB) hb)
         (try clear hb)
         (try clear hb2)
         (try clear hk)
         (try clear hi)
         refine hK.out _ _ ⟨(uF BK312.out 0).trans rfl, (uF BK312.out 1).trans rfl, (uF BK312.out 2).trans rfl, (uF BK318.out 0).trans rfl, (uF BK318.out 1).trans rfl, (uF BK318.out 2).trans rfl⟩ (fun hHeld => ?_)
         clear hK K
         refine norm_ (a' := ?_) ?_ ?_
         rotate_left
         ·show uc _ (some 53) _ = _
          simp only [uc, uA, uB, uC, uZ, ua]
          rfl
         refine one_ (i := 27) (N := some 55) #[T,T,T,T,T,T,T,T,T,T,T,T,T,T,T,T,T,T,T,T,T,T,T,T,T,T,T,T,F,F,F,F,F,F,F,F,F,F] rfl rfl (one_of HT_.out (by kernel_rfl)) (by decide) (fun K hK => ?_)
         refine goes_ Tryd.func35 (by kernel_rfl) rfl #[.agg #[.int .i64 t309, .int .i64 t310, .int .i64 t311]] (by rfl) rfl rfl (by (try simp only [List.map_toArray, List.map_cons, List.map_nil]); first | done | rfl | (simp only [List.length_drop, List.length_take]; rfl)) ?_
         with_reducible refine (spec_TagNumber.calls t309 t310 t311 t322 _ A24.out).mono ?_
         rintro e w33 ⟨rfl, hb⟩
         refine ⟨_, rfl, ?_⟩
         replace BK312 := uD (blk_below (pk BK312) hb)
         replace BK318 := uD (blk_below (pk BK318) hb)
         replace HB := uD (uO (pb HB) hb)
         (try clear hb)
         (try clear hb2)
         (try clear hk)
         (try clear hi)
         refine hK.out _ _ ⟨(uF BK312.out 0).trans rfl, (uF BK312.out 1).trans rfl, (uF BK312.out 2).trans rfl, (uF BK318.out 0).trans rfl, (uF BK318.out 1).trans rfl, (uF BK318.out 2).trans rfl⟩ (fun hHeld => ?_)
         clear hK K
         refine norm_ (a' := ?_) ?_ ?_
         rotate_left
         ·show uc _ (some 55) _ = _
          simp only [uc, uA, uB, uC, uZ, ua]
          rfl
         refine pu 28 (some 56) #[T,T,T,T,T,T,T,T,T,T,T,T,T,T,T,T,T,T,T,T,T,T,T,T,T,T,T,T,T,F,F,F,F,F,F,F,F,F] HT_ ?_
         refine pu 29 (some 57) #[T,T,T,T,T,T,T,T,T,T,T,T,T,T,T,T,T,T,T,T,T,T,T,T,T,T,T,T,T,T,F,F,F,F,F,F,F,F] HT_ ?_
         refine pu 30 (some 58) #[T,T,T,T,T,T,T,T,T,T,T,T,T,T,T,T,T,T,T,T,T,T,T,T,T,T,T,T,T,T,T,F,F,F,F,F,F,F] HT_ ?_
         refine pu 31 (some 59) #[T,T,T,T,T,T,T,T,T,T,T,T,T,T,T,T,T,T,T,T,T,T,T,T,T,T,T,T,T,T,T,T,F,F,F,F,F,F] HT_ ?_
         refine tk 32 (some 60) #[T,T,T,T,T,T,T,T,T,T,T,T,T,T,T,T,T,T,T,T,T,T,T,T,T,T,T,T,T,T,T,T,T,F,F,F,F,F] HT_ HW_ hHeld ?_
         refine tk 34 (some 62) #[T,T,T,T,T,T,T,T,T,T,T,T,T,T,T,T,T,T,T,T,T,T,T,T,T,T,T,T,T,T,T,T,T,F,T,F,F,F] HT_ HW_ hHeld ?_
         refine one_ (i := 33) (N := some 61) #[T,T,T,T,T,T,T,T,T,T,T,T,T,T,T,T,T,T,T,T,T,T,T,T,T,T,T,T,T,T,T,T,T,T,T,F,F,F] rfl rfl (one_of HT_.out (by kernel_rfl)) (by decide) (fun K hK => ?_)
         refine goes_ Tryd.func28 (by kernel_rfl) rfl #[.agg #[.int .i64 t309, .int .i64 t310, .int .i64 t311]] (by rfl) rfl rfl (by (try simp only [List.map_toArray, List.map_cons, List.map_nil]); first | done | rfl | (simp only [List.length_drop, List.length_take]; rfl)) ?_
         with_reducible refine (impl_TagNumber.calls t309 t310 t311 t323 _ A26.out).mono ?_
         rintro e w34 ⟨rfl, hb⟩
         refine ⟨_, rfl, ?_⟩
         replace BK312 := uD (blk_below (pk BK312) hb)
         replace BK318 := uD (blk_below (pk BK318) hb)
         replace HB := uD (uO (pb HB) hb)
         (try clear hb)
         (try clear hb2)
         (try clear hk)
         (try clear hi)
         refine hK.out _ _ ⟨(uF BK312.out 0).trans rfl, (uF BK312.out 1).trans rfl, (uF BK312.out 2).trans rfl, (uF BK318.out 0).trans rfl, (uF BK318.out 1).trans rfl, (uF BK318.out 2).trans rfl⟩ (fun hHeld => ?_)
         clear hK K
         refine norm_ (a' := ?_) ?_ ?_
         rotate_left
         ·show uc _ (some 61) _ = _
          simp only [uc, uA, uB, uC, uZ, ua]
          rfl
         refine one_ (i := 35) (N := some 63) #[T,T,T,T,T,T,T,T,T,T,T,T,T,T,T,T,T,T,T,T,T,T,T,T,T,T,T,T,T,T,T,T,T,T,T,T,F,F] rfl rfl (one_of HT_.out (by kernel_rfl)) (by decide) (fun K hK => ?_)
         refine goes_ Tryd.func35 (by kernel_rfl) rfl #[.agg #[.int .i64 t309, .int .i64 t310, .int .i64 t311]] (by rfl) rfl rfl (by (try simp only [List.map_toArray, List.map_cons, List.map_nil]); first | done | rfl | (simp only [List.length_drop, List.length_take]; rfl)) ?_
         with_reducible refine (spec_TagNumber.calls t309 t310 t311 t324 _ A27.out).mono ?_
         rintro e w35 ⟨rfl, hb⟩
         refine ⟨_, rfl, ?_⟩
         replace BK312 := uD (blk_below (pk BK312) hb)
         replace BK318 := uD (blk_below (pk BK318) hb)
         replace HB := uD (uO (pb HB) hb)
         (try clear hb)
         (try clear hb2)
         (try clear hk)
         (try clear hi)
         refine hK.out _ _ ⟨(uF BK312.out 0).trans rfl, (uF BK312.out 1).trans rfl, (uF BK312.out 2).trans rfl, (uF BK318.out 0).trans rfl, (uF BK318.out 1).trans rfl, (uF BK318.out 2).trans rfl⟩ (fun hHeld => ?_)
         clear hK K
         refine norm_ (a' := ?_) ?_ ?_
         rotate_left
         ·show uc _ (some 63) _ = _
          simp only [uc, uA, uB, uC, uZ, ua]
          rfl
         refine pu 36 (some 64) #[T,T,T,T,T,T,T,T,T,T,T,T,T,T,T,T,T,T,T,T,T,T,T,T,T,T,T,T,T,T,T,T,T,T,T,T,T,F] HT_ ?_
         refine pu 37 (some 65) #[T,T,T,T,T,T,T,T,T,T,T,T,T,T,T,T,T,T,T,T,T,T,T,T,T,T,T,T,T,T,T,T,T,T,T,T,T,T] HT_ ?_
         refine done_ (done_of HT_.out (by kernel_rfl)) ?_
         try go_wp2
         go_meet
         case rel => exact ⟨_, ((t323 != t324)), (by first | rfl | (simp; done) | (simp [*]; done)), H', ⟨by first | omega | exact Nat.le_refl _⟩, ⟨by (with_reducible repeat first|apply uH|apply uJ|apply uG); exact BK312.out⟩, ⟨by (with_reducible repeat first|apply uH|apply uJ|apply uG); exact BK318.out⟩, ⟨pb HB⟩⟩
        ·rw [if_neg c25] at H
         have c25b0 : (t321 == (Int.tmod t322 7)) = false := beq_eq_false_iff_ne.mpr c25
         have c25b1 : (t321 != (Int.tmod t322 7)) = true := bne_iff_ne.mpr c25
         exact absurd H (by cases k <;> simp [laws_FnTags.j0])
       ·replace c22 := Bool.eq_false_iff.mpr c22
        subst c22
        have H1 : (laws_FnTags.j0 k l0 t313 true) = some true := by rw [if_neg (show ¬ (false = true) by decide)] at H; first | done | exact H
        clear H
        have H := H1
        clear H1
        exact absurd H (by cases k <;> simp [laws_FnTags.j0])
     ·replace c19 := Bool.eq_false_iff.mpr c19
      subst c19
      have H1 : (laws_FnTags.j0 k l0 t313 true) = some true := by rw [if_neg (show ¬ (false = true) by decide)] at H; first | done | exact H
      clear H
      have H := H1
      clear H1
      exact absurd H (by cases k <;> simp [laws_FnTags.j0])
    ·rw [if_neg c18] at H
     have c18b0 : (t313.toList == t319.toList) = false := beq_eq_false_iff_ne.mpr c18
     have c18b1 : (t313.toList != t319.toList) = true := bne_iff_ne.mpr c18
     exact absurd H (by cases k <;> simp [laws_FnTags.j0])
   ·rw [if_neg c16] at H
    have c16b0 : ((t313.size : Int) == 12) = false := beq_eq_false_iff_ne.mpr c16
    have c16b1 : ((t313.size : Int) != 12) = true := bne_iff_ne.mpr c16
    (first | rw [c16b0] | (simp only [uZ, ua]; rw [c16b0]) | skip)
    exact absurd H (by cases k <;> simp [laws_FnTags.j0])
  case rest =>
   clear HC7
   try clear c1
   try clear c2
   try clear p2
   try clear c3
   try clear c9
   try clear c12
   try clear c14
   try clear c16
   try clear c16b0
   try clear c16b1
   try clear c18
   try clear c18b0
   try clear c18b1
   try clear c19
   try clear c20
   try clear c20b0
   try clear c22
   try clear c25
   try clear c25b0
   try clear c25b1
   try clear c28
   try clear c32
   try clear c33
   try clear c34
   try clear c35
   try clear hcz10_0
   try clear hcz10_1
   try clear hcz10_2
   try clear hcz15_0
   try clear hcz15_1
   try clear hcz15_2
   try clear hfz10_0
   try clear hfz10_1
   try clear hfz10_2
   try clear hfz15_0
   try clear hfz15_1
   try clear hfz15_2
   obtain ⟨kq, x65_6, rfl, HA, HJ6, BK312, BK318, HB⟩ := hcut
   cases kq with
   | zero => exact absurd HA.out (by simp [laws_FnTags.j0])
   | succ kj6 =>
    have H := HA.out
    clear HA
    simp only [laws_FnTags.j0] at H
    by_cases c36 : x65_6 = true
    ·subst c36
     have H1 : (some false) = some true := by rw [if_pos rfl] at H; first | done | exact H
     clear H
     have H := H1
     clear H1
     exact absurd H (by simp)
    ·replace c36 := Bool.eq_false_iff.mpr c36
     subst c36
     have H1 : (laws_FnTags.l0 kj6 l0 t313 0) = some true := by rw [if_neg (show ¬ (false = true) by decide)] at H; first | done | exact H
     clear H
     have H := H1
     clear H1
     have H' := uD H
     clear H
     go_wp2
     go_loopg [7] kj6 (fun kq v7 w' => ∃ (x7_2 : Int), v7 = .int .i64 x7_2 ∧ Aside0 (laws_FnTags.l0 kq l0 t313 x7_2 = some true) ∧ Aside0 (kq ≤ kj6) ∧ Aside0 (w'.heap[gb312]? = some (.cells #[.int .i64 t309, .int .i64 t310, .int .i64 t311] 25 (0, 0))) ∧ Aside0 (w'.heap[gb318]? = some (.cells #[.int .i64 t314, .int .i64 t315, .int .i64 t316] 25 (0, 0))) ∧ Aside0 (Below w.heap.size w w'))
     case atStart => exact ⟨(0), (by first | rfl | (simp; done) | (simp [*]; done)), H', ⟨Nat.le_refl _⟩, ⟨by (with_reducible repeat first|apply uH|apply uJ|apply uG); exact BK312.out⟩, ⟨by (with_reducible repeat first|apply uH|apply uJ|apply uG); exact BK318.out⟩, ⟨pb HB⟩⟩
     case round =>
      clear H'
      try clear c1
      try clear c2
      try clear p2
      try clear c3
      try clear c9
      try clear c12
      try clear c14
      try clear c16
      try clear c16b0
      try clear c16b1
      try clear c18
      try clear c18b0
      try clear c18b1
      try clear c19
      try clear c20
      try clear c20b0
      try clear c22
      try clear c25
      try clear c25b0
      try clear c25b1
      try clear c28
      try clear c32
      try clear c33
      try clear c34
      try clear c35
      try clear c36
      try clear hcz10_0
      try clear hcz10_1
      try clear hcz10_2
      try clear hcz15_0
      try clear hcz15_1
      try clear hcz15_2
      try clear hfz10_0
      try clear hfz10_1
      try clear hfz10_2
      try clear hfz15_0
      try clear hfz15_1
      try clear hfz15_2
      try clear p2
      obtain ⟨x7_2, rfl, HA, HK2, BK312, BK318, HB⟩ := hrel
      cases gk with
      | zero => exact absurd HA.out (by simp [laws_FnTags.l0])
      | succ k2 =>
       have H := HA.out
       clear HA
       simp only [laws_FnTags.l0] at H
       by_cases c37 : x7_2 < 256
       ·rw [if_pos c37] at H
        have c37b0 : decide (x7_2 < 256) = true := decide_eq_true c37
        clear c37
        by_cases c38 : 0 ≤ 11
        ·rw [if_pos c38] at H
         have c38b0 := eq_true c38
         have c38b1 : decide (0 ≤ 11) = true := decide_eq_true c38
         clear c38
         by_cases c39 : 11 ≤ (t313.size : Int)
         ·rw [if_pos c39] at H
          have c39b0 := eq_true c39
          have c39b1 : decide (11 ≤ (t313.size : Int)) = true := decide_eq_true c39
          clear c39
          obtain ⟨y325, hy325⟩ : ∃ y_ : List Int, y_ = (([(x7_2) % 256] : List Int)) := ⟨_, rfl⟩
          replace H : (if (t313.extract 0 11).size + (strOfNums y325).size ≤ 9223372036854775807 then ((impl_ParseTag.f k2 ((t313.extract 0 11) ++ (strOfNums y325))).bind fun bt328 => (if (bt328.2.2.2 != (((t313.extract 0 11) ++ (strOfNums y325)).toList == t313.toList)) = true then (some false) else (laws_FnTags.l0 k2 l0 t313 (wrap64 (x7_2 + 1))))) else (none)) = some true := by first | (rw [hy325]; with_reducible exact H) | (have H2_ := (Option.bind_some _ _).symm.trans H; rw [hy325]; with_reducible exact H2_) | (have H2_ := (Option.bind_some _ _).symm.trans H; with_reducible exact H2_) | with_reducible exact H | (rw [hy325]; exact H) | exact H
          have Ny325 := uD hy325
          clear hy325
          by_cases c40 : (t313.extract 0 11).size + (strOfNums y325).size ≤ 9223372036854775807
          ·rw [if_pos c40] at H
           have c40b0 := eq_true c40
           have c40b1 : decide ((t313.extract 0 11).size + (strOfNums y325).size ≤ 9223372036854775807) = true := decide_eq_true c40
           try have c40b2 : (9223372036854775807 < (t313.extract 0 11).size + (strOfNums y325).size) = False := eq_false (Nat.not_lt.2 c40)
           have c40b3 : (9223372036854775807 < min 11 t313.size + (strOfNums y325).size) = False := eq_false (by have h_ := c40; rw [ByteArray.size_extract] at h_; omega)
           replace H := Option.bind_eq_some_iff.mp H
           obtain ⟨⟨t328, t329, t330, t331⟩, A410, H⟩ := H
           replace H : (if (t331 != (((t313.extract 0 11) ++ (strOfNums y325)).toList == t313.toList)) = true then (some false) else (laws_FnTags.l0 k2 l0 t313 (wrap64 (x7_2 + 1)))) = some true := H
           have A41 := uD A410
           clear A410
           by_cases c42 : (t331 != (((t313.extract 0 11) ++ (strOfNums y325)).toList == t313.toList)) = true
           ·rw [if_pos c42] at H
            have c42b0 : (t331 != (((t313.extract 0 11) ++ (strOfNums y325)).toList == t313.toList)) = true := c42
            (try (have c42b1 : decide (t331 = (((t313.extract 0 11) ++ (strOfNums y325)).toList == t313.toList)) = false := by simpa using c42))
            (try (have c42b2 : (t331 == (((t313.extract 0 11) ++ (strOfNums y325)).toList == t313.toList)) = false := by simpa using c42))
            (try (have c42b3 : ¬ (t331 = (((t313.extract 0 11) ++ (strOfNums y325)).toList == t313.toList)) := by simpa using c42))
            clear c42
            exact absurd H (by simp)
           ·rw [if_neg c42] at H
            have c42b0 : (t331 != (((t313.extract 0 11) ++ (strOfNums y325)).toList == t313.toList)) = false := by simpa using c42
            (try (have c42b1 : decide (t331 = (((t313.extract 0 11) ++ (strOfNums y325)).toList == t313.toList)) = true := by simpa using c42))
            (try (have c42b2 : (t331 == (((t313.extract 0 11) ++ (strOfNums y325)).toList == t313.toList)) = true := by simpa using c42))
            clear c42
            have H' := uD H
            clear H
            try go_wp2
            replace BK312 := uD (uJ BK312.out)
            replace BK318 := uD (uJ BK318.out)
            replace HB := uD (uK HB.out)
            refine start_ (n := 8) (S := fun w' => True) (ds := []) #[F,F,F,F,F,F,F,F] (by kernel_rfl) rfl rfl trivial (fun hHeld => ?_); refine with_tabW laws_FnTags.tab11 laws_FnTags.bits11 (fun HT_ HW_ => ?_)
            generalize wr.drew = w43 at BK312 BK318 HB hHeld ⊢
            refine pu 0 (some 70) #[T,F,F,F,F,F,F,F] HT_ ?_
            refine pu 1 (some 71) #[T,T,F,F,F,F,F,F] HT_ ?_
            refine pu 2 (some 72) #[T,T,T,F,F,F,F,F] HT_ ?_
            refine pu 3 (some 73) #[T,T,T,T,F,F,F,F] HT_ ?_
            refine one_ (i := 4) (N := some 74) #[T,T,T,T,T,F,F,F] rfl rfl (one_of HT_.out (by kernel_rfl)) (by decide) (fun K hK => ?_)
            refine Kd.R_lit_step (Kd.int .u8) _ 5 ?hg (N := 74) ?hd (xs := ([(x7_2) % 256] : List Int)) (inner := [.int .u8 ((x7_2) % 256)]) (ok := fun _ => True) (okp := fun _ => True) ?hr ?hp (fun _ hk => hk) trivial (Below.refl _ _) (Nat.le_refl _) (by simp) ?_; (case hd => rfl); (case hg => rfl); (case hr => first | (go_simp; done) | (go_simp; rfl)); (case hp => exact (Reps.one (show Kd.M (Kd.int .u8) _ _ _ ((x7_2) % 256) [.int .u8 ((x7_2) % 256)] from rfl) (Reps.none _ _)))
            intro v326 w44 ho45 hb hg_ hnew_
            clear hg_ hnew_
            (first | rw [← Ny325.out] at ho45 | (simp only [Int.reduceToNat] at ho45; rw [← Ny325.out] at ho45))
            have HO327 := uD (Kd.R_lower ho45 (uN (pb HB)))
            replace BK312 := uD (blk_below (pk BK312) hb)
            replace BK318 := uD (blk_below (pk BK318) hb)
            replace HB := uD (uO (pb HB) hb)
            clear hb ho45
            refine hK.out _ _ trivial (fun hHeld => ?_)
            clear hK K
            refine norm_ (a' := ?_) ?_ ?_
            rotate_left
            ·show uc _ (some 74) _ = _
             simp only [uc, uA, uB, uC, uZ, ua]
             rfl
            refine one_ (i := 5) (N := some 75) #[T,T,T,T,T,T,F,F] rfl rfl (one_of HT_.out (by kernel_rfl)) (by decide) (fun K hK => ?_)
            have hcv46 := own_string (P := Tryd.prog) Tryd.underlying37 Tryd.underlying5 Tryd.underlying9 (Kd.own_of_R HO327.out)
            refine value_ (w1 := ?_) (v := ?_) (by rfl) rfl ?_ ?_
            rotate_left 2
            ·go_simp
             constructor
             ·rfl
             ·rfl
            clear hcv46
            refine hK.out _ _ trivial (fun hHeld => ?_)
            clear hK K
            refine norm_ (a' := ?_) ?_ ?_
            rotate_left
            ·show uc _ (some 75) _ = _
             simp only [uc, uA, uB, uC, uZ, ua]
             rfl
            refine pu 6 (some 76) #[T,T,T,T,T,T,T,F] HT_ ?_
            refine pu 7 (some 8) #[T,T,T,T,T,T,T,T] HT_ ?_
            refine done_ (done_of HT_.out (by kernel_rfl)) ?_
            try go_wp2_with (first | ((with_reducible refine gate_callee (f := 16) rfl ?_); refine gl (some 79) Tryd.func16 #[.string ((t313.extract 0 11) ++ (strOfNums y325))] ?_; (with_reducible refine (impl_ParseTag.calls k2 ((t313.extract 0 11) ++ (strOfNums y325)) t328 t329 t330 t331 _ ?side1 A41.out).mono ?_); (case side1 => exact tb11 HTAB (pb HB)); rintro e w47 ⟨rfl, hb⟩; refine ⟨_, rfl, ?_⟩; replace HO327 := uD (Kd.R_below (pr HO327) hb); replace BK312 := uD (blk_below (pk BK312) hb); replace BK318 := uD (blk_below (pk BK318) hb); replace HB := uD (uO (pb HB) hb); (try clear hb); (try clear hb2); (try clear hk); (try clear hi)) | ((with_reducible refine gate_dst (N := 9) rfl ?_); refine bx 9 #[.int .i64 0, .int .i64 0, .int .i64 0] 25 ?_; intro gb332 hg w48 hbox hb; replace HO327 := uD (Kd.R_below (pr HO327) hb); have BK332 := uD (hbox); have GW332 := uD ((by rw [hg]; exact (uN (pb HB)) : w.heap.size ≤ gb332)); have GE332 := uD ((by rw [hg]; exact (uN (pb HB)) : w.heap.size ≤ gb332)); replace HB := uD (uO (pb HB) hb); have NB312_332 := uD ((by rw [hg]; exact Nat.ne_of_lt (blk_lt (pk BK312)) : gb312 ≠ gb332)); have NB332_312 := uD ((by rw [hg]; exact Nat.ne_of_gt (blk_lt (pk BK312)) : gb332 ≠ gb312)); replace BK312 := uD (blk_below (pk BK312) hb); have NB318_332 := uD ((by rw [hg]; exact Nat.ne_of_lt (blk_lt (pk BK318)) : gb318 ≠ gb332)); have NB332_318 := uD ((by rw [hg]; exact Nat.ne_of_gt (blk_lt (pk BK318)) : gb332 ≠ gb318)); replace BK318 := uD (blk_below (pk BK318) hb); clear hb hbox hg; have hnb49 := NB332_312.out; have hnc49 := NB312_332.out; have hnb50 := NB332_318.out; have hnc50 := NB318_332.out; obtain ⟨hcz51_0, hcz51_1, hcz51_2, hfz51_0, hfz51_1, hfz51_2⟩ := cz3 BK332))
            go_roundg k2
            case measure => have := HJ6.out; have := HK2.out; omega
            case rel => exact ⟨(wrap64 (x7_2 + 1)), (by first | rfl | (simp; done) | (simp [*]; done)), H', ⟨by have := HJ6.out; have := HK2.out; omega⟩, ⟨by exact ps BK312⟩, ⟨by exact ps BK318⟩, ⟨pb HB⟩⟩
          ·rw [if_neg c40] at H
           exact absurd H (by simp)
         ·rw [if_neg c39] at H
          exact absurd H (by simp)
        ·rw [if_neg c38] at H
         exact absurd H (by simp)
       ·rw [if_neg c37] at H
        have c37b0 : decide (x7_2 < 256) = false := decide_eq_false c37
        clear c37
        replace H := Option.bind_eq_some_iff.mp H
        obtain ⟨⟨t333, t334, t335⟩, A520, H⟩ := H
        replace H : ((spec_DrawParseTag.f k2 l0).bind fun t337 => ((impl_ParseTag.f k2 t337).bind fun bt338 => ((spec_ParseTag.f k2 t337).bind fun bt343 => ((impl_FormatTag.f k2 t333 t334 t335).bind fun t348 => ((spec_FormatTag.f k2 t333 t334 t335).bind fun t349 => (if t348.toList = t349.toList then ((impl_FormatTag.f k2 t333 t334 t335).bind fun t350 => ((impl_TagOk.f t333 t334 t335).bind fun t351 => (if ((t350.toList != ([] : List UInt8)) == t351) = true then (if (bt338.2.2.2 == bt343.2.2.2) = true then (if (bt338.1 == bt343.1 && (bt338.2.1 == bt343.2.1 && (bt338.2.2.1 == bt343.2.2.1))) = true then (if bt338.2.2.2 = true then ((impl_FormatTag.f k2 bt338.1 bt338.2.1 bt338.2.2.1).bind fun t352 => (some (t352.toList == t337.toList))) else (some true)) else (some false)) else (some false)) else (some false)))) else (some false))))))) = some true := H
        have A52 := uD A520
        clear A520
        replace H := Option.bind_eq_some_iff.mp H
        obtain ⟨t337, A530, H⟩ := H
        replace H : ((impl_ParseTag.f k2 t337).bind fun bt338 => ((spec_ParseTag.f k2 t337).bind fun bt343 => ((impl_FormatTag.f k2 t333 t334 t335).bind fun t348 => ((spec_FormatTag.f k2 t333 t334 t335).bind fun t349 => (if t348.toList = t349.toList then ((impl_FormatTag.f k2 t333 t334 t335).bind fun t350 => ((impl_TagOk.f t333 t334 t335).bind fun t351 => (if ((t350.toList != ([] : List UInt8)) == t351) = true then (if (bt338.2.2.2 == bt343.2.2.2) = true then (if (bt338.1 == bt343.1 && (bt338.2.1 == bt343.2.1 && (bt338.2.2.1 == bt343.2.2.1))) = true then (if bt338.2.2.2 = true then ((impl_FormatTag.f k2 bt338.1 bt338.2.1 bt338.2.2.1).bind fun t352 => (some (t352.toList == t337.toList))) else (some true)) else (some false)) else (some false)) else (some false)))) else (some false)))))) = some true := H
        have A53 := uD A530
        clear A530
        replace H := Option.bind_eq_some_iff.mp H
        obtain ⟨⟨t338, t339, t340, t341⟩, A540, H⟩ := H
        replace H : ((spec_ParseTag.f k2 t337).bind fun bt343 => ((impl_FormatTag.f k2 t333 t334 t335).bind fun t348 => ((spec_FormatTag.f k2 t333 t334 t335).bind fun t349 => (if t348.toList = t349.toList then ((impl_FormatTag.f k2 t333 t334 t335).bind fun t350 => ((impl_TagOk.f t333 t334 t335).bind fun t351 => (if ((t350.toList != ([] : List UInt8)) == t351) = true then (if (t341 == bt343.2.2.2) = true then (if (t338 == bt343.1 && (t339 == bt343.2.1 && (t340 == bt343.2.2.1))) = true then (if t341 = true then ((impl_FormatTag.f k2 t338 t339 t340).bind fun t352 => (some (t352.toList == t337.toList))) else (some true)) else (some false)) else (some false)) else (some false)))) else (some false))))) = some true := H
        have A54 := uD A540
        clear A540
        replace H := Option.bind_eq_some_iff.mp H
        obtain ⟨⟨t343, t344, t345, t346⟩, A550, H⟩ := H
        replace H : ((impl_FormatTag.f k2 t333 t334 t335).bind fun t348 => ((spec_FormatTag.f k2 t333 t334 t335).bind fun t349 => (if t348.toList = t349.toList then ((impl_FormatTag.f k2 t333 t334 t335).bind fun t350 => ((impl_TagOk.f t333 t334 t335).bind fun t351 => (if ((t350.toList != ([] : List UInt8)) == t351) = true then (if (t341 == t346) = true then (if (t338 == t343 && (t339 == t344 && (t340 == t345))) = true then (if t341 = true then ((impl_FormatTag.f k2 t338 t339 t340).bind fun t352 => (some (t352.toList == t337.toList))) else (some true)) else (some false)) else (some false)) else (some false)))) else (some false)))) = some true := H
        have A55 := uD A550
        clear A550
        replace H := Option.bind_eq_some_iff.mp H
        obtain ⟨t348, A560, H⟩ := H
        replace H : ((spec_FormatTag.f k2 t333 t334 t335).bind fun t349 => (if t348.toList = t349.toList then ((impl_FormatTag.f k2 t333 t334 t335).bind fun t350 => ((impl_TagOk.f t333 t334 t335).bind fun t351 => (if ((t350.toList != ([] : List UInt8)) == t351) = true then (if (t341 == t346) = true then (if (t338 == t343 && (t339 == t344 && (t340 == t345))) = true then (if t341 = true then ((impl_FormatTag.f k2 t338 t339 t340).bind fun t352 => (some (t352.toList == t337.toList))) else (some true)) else (some false)) else (some false)) else (some false)))) else (some false))) = some true := H
        have A56 := uD A560
        clear A560
        replace H := Option.bind_eq_some_iff.mp H
        obtain ⟨t349, A570, H⟩ := H
        replace H : (if t348.toList = t349.toList then ((impl_FormatTag.f k2 t333 t334 t335).bind fun t350 => ((impl_TagOk.f t333 t334 t335).bind fun t351 => (if ((t350.toList != ([] : List UInt8)) == t351) = true then (if (t341 == t346) = true then (if (t338 == t343 && (t339 == t344 && (t340 == t345))) = true then (if t341 = true then ((impl_FormatTag.f k2 t338 t339 t340).bind fun t352 => (some (t352.toList == t337.toList))) else (some true)) else (some false)) else (some false)) else (some false)))) else (some false)) = some true := H
        have A57 := uD A570
        clear A570
        by_cases c58 : t348.toList = t349.toList
        ·rw [if_pos c58] at H
         have c58b0 : (t348.toList == t349.toList) = true := beq_iff_eq.mpr c58
         have c58b1 : (t348.toList != t349.toList) = false := bne_eq_false_iff_eq.mpr c58
         clear c58
         replace H := Option.bind_eq_some_iff.mp H
         obtain ⟨t350, A590, H⟩ := H
         replace H : ((impl_TagOk.f t333 t334 t335).bind fun t351 => (if ((t350.toList != ([] : List UInt8)) == t351) = true then (if (t341 == t346) = true then (if (t338 == t343 && (t339 == t344 && (t340 == t345))) = true then (if t341 = true then ((impl_FormatTag.f k2 t338 t339 t340).bind fun t352 => (some (t352.toList == t337.toList))) else (some true)) else (some false)) else (some false)) else (some false))) = some true := H
         have A59 := uD A590
         clear A590
         replace H := Option.bind_eq_some_iff.mp H
         obtain ⟨t351, A600, H⟩ := H
         replace H : (if ((t350.toList != ([] : List UInt8)) == t351) = true then (if (t341 == t346) = true then (if (t338 == t343 && (t339 == t344 && (t340 == t345))) = true then (if t341 = true then ((impl_FormatTag.f k2 t338 t339 t340).bind fun t352 => (some (t352.toList == t337.toList))) else (some true)) else (some false)) else (some false)) else (some false)) = some true := H
         have A60 := uD A600
         clear A600
         by_cases c61 : ((t350.toList != ([] : List UInt8)) == t351) = true
         ·rw [if_pos c61] at H
          have c61b0 : ((t350.toList != ([] : List UInt8)) == t351) = true := c61
          have c61e : ((!t350.toList.isEmpty) == t351) = true := (show (t350.toList != ([] : List UInt8)) = !t350.toList.isEmpty by cases t350.toList <;> rfl) ▸ c61b0
          (try (have c61b1 : decide ((t350.toList != ([] : List UInt8)) = t351) = true := by simpa using c61))
          (try (have c61b2 : ((t350.toList != ([] : List UInt8)) == t351) = true := by simpa using c61))
          clear c61
          by_cases c62 : (t341 == t346) = true
          ·rw [if_pos c62] at H
           have c62b0 : (t341 == t346) = true := c62
           (try (have c62b1 : decide (t341 = t346) = true := by simpa using c62))
           (try (have c62b2 : (t341 == t346) = true := by simpa using c62))
           clear c62
           by_cases c63 : (t338 == t343 && (t339 == t344 && (t340 == t345))) = true
           ·rw [if_pos c63] at H
            have c63b0 : (t338 == t343 && (t339 == t344 && (t340 == t345))) = true := c63
            (try (have c63b1 : decide (t338 = t343 && (t339 == t344 && (t340 == t345))) = true := by simpa using c63))
            (try (have c63b2 : (t338 == t343 && (t339 == t344 && (t340 == t345))) = true := by simpa using c63))
            clear c63
            by_cases c64 : t341 = true
            ·subst c64
             have H1 : ((impl_FormatTag.f k2 t338 t339 t340).bind fun t352 => (some (t352.toList == t337.toList))) = some true := by rw [if_pos rfl] at H; first | done | exact H
             clear H
             have H := H1
             clear H1
             replace H := Option.bind_eq_some_iff.mp H
             obtain ⟨t352, A650, H⟩ := H
             replace H : (some (t352.toList == t337.toList)) = some true := H
             have A65 := uD A650
             clear A650
             have HT := Option.some.inj H
             clear H
             try go_wp2_with (first | ((with_reducible refine gate_callee (f := 36) rfl ?_); refine gl (some 88) Tryd.func36 #[.slice A0 l0.length c0] ?_; (with_reducible refine (spec_DrawFormatTag.calls k2 _ _ l0 t333 t334 t335 _ ?side1 ?side2 A52.out).mono ?_); (case side1 => exact pc (Kd.C_below HR0.out HB.out)); (case side2 => exact HC0.out); rintro e w66 ⟨rfl, hb⟩; refine ⟨_, rfl, ?_⟩; replace BK312 := uD (blk_below (pk BK312) hb); replace BK318 := uD (blk_below (pk BK318) hb); replace HB := uD (uO (pb HB) hb); (try clear hb); (try clear hb2); (try clear hk); (try clear hi)) | ((with_reducible refine gate_dst (N := 11) rfl ?_); refine bx 11 #[.int .i64 0, .int .i64 0, .int .i64 0] 25 ?_; intro gb336 hg w67 hbox hb; have BK336 := uD (hbox); have GW336 := uD ((by rw [hg]; exact (uN (pb HB)) : w.heap.size ≤ gb336)); have GE336 := uD ((by rw [hg]; exact (uN (pb HB)) : w.heap.size ≤ gb336)); replace HB := uD (uO (pb HB) hb); have NB312_336 := uD ((by rw [hg]; exact Nat.ne_of_lt (blk_lt (pk BK312)) : gb312 ≠ gb336)); have NB336_312 := uD ((by rw [hg]; exact Nat.ne_of_gt (blk_lt (pk BK312)) : gb336 ≠ gb312)); replace BK312 := uD (blk_below (pk BK312) hb); have NB318_336 := uD ((by rw [hg]; exact Nat.ne_of_lt (blk_lt (pk BK318)) : gb318 ≠ gb336)); have NB336_318 := uD ((by rw [hg]; exact Nat.ne_of_gt (blk_lt (pk BK318)) : gb336 ≠ gb318)); replace BK318 := uD (blk_below (pk BK318) hb); clear hb hbox hg; have hnb68 := NB336_312.out; have hnc68 := NB312_336.out; have hnb69 := NB336_318.out; have hnc69 := NB318_336.out; obtain ⟨hcz70_0, hcz70_1, hcz70_2, hfz70_0, hfz70_1, hfz70_2⟩ := cz3 BK336) | ((with_reducible refine gate_callee (f := 37) rfl ?_); refine gl (some 90) Tryd.func37 #[.slice A0 l0.length c0] ?_; (with_reducible refine (spec_DrawParseTag.calls k2 _ _ l0 t337 _ ?side1 ?side2 A53.out).mono ?_); (case side1 => exact Kd.C_below HR0.out (pb HB)); (case side2 => exact HC0.out); rintro e w71 ⟨rfl, hb⟩; refine ⟨_, rfl, ?_⟩; replace BK312 := uD (blk_below (g := gb312) (o := .cells #[.int .i64 t309, .int .i64 t310, .int .i64 t311] 25 (0, 0)) (by exact ps BK312) hb); replace BK318 := uD (blk_below (g := gb318) (o := .cells #[.int .i64 t314, .int .i64 t315, .int .i64 t316] 25 (0, 0)) (by exact ps BK318) hb); replace BK336 := uD (blk_below (g := gb336) (o := .cells #[.int .i64 t333, .int .i64 t334, .int .i64 t335] 25 (0, 0)) (by (with_reducible repeat first|apply uH|apply uJ|apply uG); refine uP (cs := #[.int .i64 t333, .int .i64 t334, .int .i64 0]) ?_ 2 _ rfl; (with_reducible repeat first|apply uH|apply uJ|apply uG); refine uP (cs := #[.int .i64 t333, .int .i64 0, .int .i64 0]) ?_ 1 _ rfl; (with_reducible repeat first|apply uH|apply uJ|apply uG); refine uP (cs := #[.int .i64 0, .int .i64 0, .int .i64 0]) ?_ 0 _ rfl; (with_reducible repeat first|apply uH|apply uJ|apply uG); exact BK336.out) hb); replace HB := uD (uO (pb HB) hb); (try clear hb); (try clear hb2); (try clear hk); (try clear hi)) | ((with_reducible refine gate_callee (f := 16) rfl ?_); refine gl (some 93) Tryd.func16 #[.string t337] ?_; (with_reducible refine (impl_ParseTag.calls k2 t337 t338 t339 t340 true _ ?side1 A54.out).mono ?_); (case side1 => exact tb11 HTAB (pb HB)); rintro e w72 ⟨rfl, hb⟩; refine ⟨_, rfl, ?_⟩; replace BK312 := uD (blk_below (pk BK312) hb); replace BK318 := uD (blk_below (pk BK318) hb); replace BK336 := uD (blk_below (pk BK336) hb); replace HB := uD (uO (pb HB) hb); (try clear hb); (try clear hb2); (try clear hk); (try clear hi)) | ((with_reducible refine gate_dst (N := 13) rfl ?_); refine bx 13 #[.int .i64 0, .int .i64 0, .int .i64 0] 25 ?_; intro gb342 hg w73 hbox hb; have BK342 := uD (hbox); have GW342 := uD ((by rw [hg]; exact (uN (pb HB)) : w.heap.size ≤ gb342)); have GE342 := uD ((by rw [hg]; exact (uN (pb HB)) : w.heap.size ≤ gb342)); replace HB := uD (uO (pb HB) hb); have NB312_342 := uD ((by rw [hg]; exact Nat.ne_of_lt (blk_lt (pk BK312)) : gb312 ≠ gb342)); have NB342_312 := uD ((by rw [hg]; exact Nat.ne_of_gt (blk_lt (pk BK312)) : gb342 ≠ gb312)); replace BK312 := uD (blk_below (pk BK312) hb); have NB318_342 := uD ((by rw [hg]; exact Nat.ne_of_lt (blk_lt (pk BK318)) : gb318 ≠ gb342)); have NB342_318 := uD ((by rw [hg]; exact Nat.ne_of_gt (blk_lt (pk BK318)) : gb342 ≠ gb318)); replace BK318 := uD (blk_below (pk BK318) hb); have NB336_342 := uD ((by rw [hg]; exact Nat.ne_of_lt (blk_lt (pk BK336)) : gb336 ≠ gb342)); have NB342_336 := uD ((by rw [hg]; exact Nat.ne_of_gt (blk_lt (pk BK336)) : gb342 ≠ gb336)); replace BK336 := uD (blk_below (pk BK336) hb); clear hb hbox hg; have hnb74 := NB342_312.out; have hnc74 := NB312_342.out; have hnb75 := NB342_318.out; have hnc75 := NB318_342.out; have hnb76 := NB342_336.out; have hnc76 := NB336_342.out; obtain ⟨hcz77_0, hcz77_1, hcz77_2, hfz77_0, hfz77_1, hfz77_2⟩ := cz3 BK342) | ((with_reducible refine gate_callee (f := 15) rfl ?_); refine gl (some 98) Tryd.func15 #[.string t337] ?_; (with_reducible refine (spec_ParseTag.calls k2 t337 t343 t344 t345 t346 _ A55.out).mono ?_); rintro e w78 ⟨rfl, hb⟩; refine ⟨_, rfl, ?_⟩; replace BK312 := uD (blk_below (g := gb312) (o := .cells #[.int .i64 t309, .int .i64 t310, .int .i64 t311] 25 (0, 0)) (by exact ps BK312) hb); replace BK318 := uD (blk_below (g := gb318) (o := .cells #[.int .i64 t314, .int .i64 t315, .int .i64 t316] 25 (0, 0)) (by exact ps BK318) hb); replace BK336 := uD (blk_below (g := gb336) (o := .cells #[.int .i64 t333, .int .i64 t334, .int .i64 t335] 25 (0, 0)) (by exact ps BK336) hb); replace BK342 := uD (blk_below (g := gb342) (o := .cells #[.int .i64 t338, .int .i64 t339, .int .i64 t340] 25 (0, 0)) (by (with_reducible repeat first|apply uH|apply uJ|apply uG); refine uP (cs := #[.int .i64 t338, .int .i64 t339, .int .i64 0]) ?_ 2 _ rfl; (with_reducible repeat first|apply uH|apply uJ|apply uG); refine uP (cs := #[.int .i64 t338, .int .i64 0, .int .i64 0]) ?_ 1 _ rfl; (with_reducible repeat first|apply uH|apply uJ|apply uG); refine uP (cs := #[.int .i64 0, .int .i64 0, .int .i64 0]) ?_ 0 _ rfl; (with_reducible repeat first|apply uH|apply uJ|apply uG); exact BK342.out) hb); replace HB := uD (uO (pb HB) hb); (try clear hb); (try clear hb2); (try clear hk); (try clear hi)) | ((with_reducible refine gate_dst (N := 15) rfl ?_); refine bx 15 #[.int .i64 0, .int .i64 0, .int .i64 0] 25 ?_; intro gb347 hg w79 hbox hb; have BK347 := uD (hbox); have GW347 := uD ((by rw [hg]; exact (uN (pb HB)) : w.heap.size ≤ gb347)); have GE347 := uD ((by rw [hg]; exact (uN (pb HB)) : w.heap.size ≤ gb347)); replace HB := uD (uO (pb HB) hb); have NB312_347 := uD ((by rw [hg]; exact Nat.ne_of_lt (blk_lt (pk BK312)) : gb312 ≠ gb347)); have NB347_312 := uD ((by rw [hg]; exact Nat.ne_of_gt (blk_lt (pk BK312)) : gb347 ≠ gb312)); replace BK312 := uD (blk_below (pk BK312) hb); have NB318_347 := uD ((by rw [hg]; exact Nat.ne_of_lt (blk_lt (pk BK318)) : gb318 ≠ gb347)); have NB347_318 := uD ((by rw [hg]; exact Nat.ne_of_gt (blk_lt (pk BK318)) : gb347 ≠ gb318)); replace BK318 := uD (blk_below (pk BK318) hb); have NB336_347 := uD ((by rw [hg]; exact Nat.ne_of_lt (blk_lt (pk BK336)) : gb336 ≠ gb347)); have NB347_336 := uD ((by rw [hg]; exact Nat.ne_of_gt (blk_lt (pk BK336)) : gb347 ≠ gb336)); replace BK336 := uD (blk_below (pk BK336) hb); have NB342_347 := uD ((by rw [hg]; exact Nat.ne_of_lt (blk_lt (pk BK342)) : gb342 ≠ gb347)); have NB347_342 := uD ((by rw [hg]; exact Nat.ne_of_gt (blk_lt (pk BK342)) : gb347 ≠ gb342)); replace BK342 := uD (blk_below (pk BK342) hb); clear hb hbox hg; have hnb80 := NB347_312.out; have hnc80 := NB312_347.out; have hnb81 := NB347_318.out; have hnc81 := NB318_347.out; have hnb82 := NB347_336.out; have hnc82 := NB336_347.out; have hnb83 := NB347_342.out; have hnc83 := NB342_347.out; obtain ⟨hcz84_0, hcz84_1, hcz84_2, hfz84_0, hfz84_1, hfz84_2⟩ := cz3 BK347))
             have n0_ : Aside0 ((((w79.setCell ⟨gb347, 0, none⟩ (.int .i64 t343)).setCell ⟨gb347, 1, none⟩ (.int .i64 t344)).setCell ⟨gb347, 2, none⟩ (.int .i64 t345)).heap[gb312]? = some (.cells #[.int .i64 t309, .int .i64 t310, .int .i64 t311] 25 (0, 0))) := ⟨by exact ps BK312⟩
             have n1_ : Aside0 ((((w79.setCell ⟨gb347, 0, none⟩ (.int .i64 t343)).setCell ⟨gb347, 1, none⟩ (.int .i64 t344)).setCell ⟨gb347, 2, none⟩ (.int .i64 t345)).heap[gb318]? = some (.cells #[.int .i64 t314, .int .i64 t315, .int .i64 t316] 25 (0, 0))) := ⟨by exact ps BK318⟩
             have n2_ : Aside0 ((((w79.setCell ⟨gb347, 0, none⟩ (.int .i64 t343)).setCell ⟨gb347, 1, none⟩ (.int .i64 t344)).setCell ⟨gb347, 2, none⟩ (.int .i64 t345)).heap[gb336]? = some (.cells #[.int .i64 t333, .int .i64 t334, .int .i64 t335] 25 (0, 0))) := ⟨by exact ps BK336⟩
             have n3_ : Aside0 ((((w79.setCell ⟨gb347, 0, none⟩ (.int .i64 t343)).setCell ⟨gb347, 1, none⟩ (.int .i64 t344)).setCell ⟨gb347, 2, none⟩ (.int .i64 t345)).heap[gb342]? = some (.cells #[.int .i64 t338, .int .i64 t339, .int .i64 t340] 25 (0, 0))) := ⟨by exact ps BK342⟩
             have n4_ : Aside0 ((((w79.setCell ⟨gb347, 0, none⟩ (.int .i64 t343)).setCell ⟨gb347, 1, none⟩ (.int .i64 t344)).setCell ⟨gb347, 2, none⟩ (.int .i64 t345)).heap[gb347]? = some (.cells #[.int .i64 t343, .int .i64 t344, .int .i64 t345] 25 (0, 0))) := ⟨by (with_reducible repeat first|apply uH|apply uJ|apply uG); refine uP (cs := #[.int .i64 t343, .int .i64 t344, .int .i64 0]) ?_ 2 _ rfl; (with_reducible repeat first|apply uH|apply uJ|apply uG); refine uP (cs := #[.int .i64 t343, .int .i64 0, .int .i64 0]) ?_ 1 _ rfl; (with_reducible repeat first|apply uH|apply uJ|apply uG); refine uP (cs := #[.int .i64 0, .int .i64 0, .int .i64 0]) ?_ 0 _ rfl; (with_reducible repeat first|apply uH|apply uJ|apply uG); exact BK347.out⟩
             have n5_ : Aside0 (Below w.heap.size w (((w79.setCell ⟨gb347, 0, none⟩ (.int .i64 t343)).setCell ⟨gb347, 1, none⟩ (.int .i64 t344)).setCell ⟨gb347, 2, none⟩ (.int .i64 t345))) := ⟨pb HB⟩
             (try clear BK312)
             (try clear BK318)
             (try clear BK336)
             (try clear BK342)
             (try clear BK347)
             (try clear HB)
             generalize (((w79.setCell ⟨gb347, 0, none⟩ (.int .i64 t343)).setCell ⟨gb347, 1, none⟩ (.int .i64 t344)).setCell ⟨gb347, 2, none⟩ (.int .i64 t345)) = w85 at n0_ n1_ n2_ n3_ n4_ n5_ ⊢
             have BK312 := n0_
             have BK318 := n1_
             have BK336 := n2_
             have BK342 := n3_
             have BK347 := n4_
             have HB := n5_
             clear n0_ n1_ n2_ n3_ n4_ n5_
             replace BK312 := uD (uJ BK312.out)
             replace BK318 := uD (uJ BK318.out)
             replace BK336 := uD (uJ BK336.out)
             replace BK342 := uD (uJ BK342.out)
             replace BK347 := uD (uJ BK347.out)
             replace HB := uD (uK HB.out)
             refine start_ (n := 34) (S := fun w' => w'.cell? ⟨gb336, 0, none⟩ = some (.int .i64 t333) ∧ w'.cell? ⟨gb336, 1, none⟩ = some (.int .i64 t334) ∧ w'.cell? ⟨gb336, 2, none⟩ = some (.int .i64 t335) ∧ w'.cell? ⟨gb342, 0, none⟩ = some (.int .i64 t338) ∧ w'.cell? ⟨gb342, 1, none⟩ = some (.int .i64 t339) ∧ w'.cell? ⟨gb342, 2, none⟩ = some (.int .i64 t340) ∧ w'.cell? ⟨gb347, 0, none⟩ = some (.int .i64 t343) ∧ w'.cell? ⟨gb347, 1, none⟩ = some (.int .i64 t344) ∧ w'.cell? ⟨gb347, 2, none⟩ = some (.int .i64 t345)) (ds := []) #[F,F,F,F,F,F,F,F,F,F,F,F,F,F,F,F,F,F,F,F,F,F,F,F,F,F,F,F,F,F,F,F,F,F] (by kernel_rfl) rfl rfl ⟨(uF BK336.out 0).trans rfl, (uF BK336.out 1).trans rfl, (uF BK336.out 2).trans rfl, (uF BK342.out 0).trans rfl, (uF BK342.out 1).trans rfl, (uF BK342.out 2).trans rfl, (uF BK347.out 0).trans rfl, (uF BK347.out 1).trans rfl, (uF BK347.out 2).trans rfl⟩ (fun hHeld => ?_); refine with_tabW laws_FnTags.tab19 laws_FnTags.bits19 (fun HT_ HW_ => ?_)
             generalize w85.drew = w86 at BK312 BK318 BK336 BK342 BK347 HB hHeld ⊢
             refine tk 0 (some 101) #[T,F,F,F,F,F,F,F,F,F,F,F,F,F,F,F,F,F,F,F,F,F,F,F,F,F,F,F,F,F,F,F,F,F] HT_ HW_ hHeld ?_
             refine tk 2 (some 103) #[T,F,T,F,F,F,F,F,F,F,F,F,F,F,F,F,F,F,F,F,F,F,F,F,F,F,F,F,F,F,F,F,F,F] HT_ HW_ hHeld ?_
             refine one_ (i := 1) (N := some 102) #[T,T,T,F,F,F,F,F,F,F,F,F,F,F,F,F,F,F,F,F,F,F,F,F,F,F,F,F,F,F,F,F,F,F] rfl rfl (one_of HT_.out (by kernel_rfl)) (by decide) (fun K hK => ?_)
             refine goes_ Tryd.func14 (by kernel_rfl) rfl #[.agg #[.int .i64 t333, .int .i64 t334, .int .i64 t335]] (by rfl) rfl rfl (by (try simp only [List.map_toArray, List.map_cons, List.map_nil]); first | done | rfl | (simp only [List.length_drop, List.length_take]; rfl)) ?_
             with_reducible refine (impl_FormatTag.calls k2 t333 t334 t335 t348 _ ?side1 A56.out).mono ?_
             (case side1 => exact tb11 HTAB (pb HB))
             rintro e w87 ⟨rfl, hb⟩
             refine ⟨_, rfl, ?_⟩
             replace BK312 := uD (blk_below (pk BK312) hb)
             replace BK318 := uD (blk_below (pk BK318) hb)
             replace BK336 := uD (blk_below (pk BK336) hb)
             replace BK342 := uD (blk_below (pk BK342) hb)
             replace BK347 := uD (blk_below (pk BK347) hb)
             replace HB := uD (uO (pb HB) hb)
             (try clear hb)
             (try clear hb2)
             (try clear hk)
             (try clear hi)
             refine hK.out _ _ ⟨(uF BK336.out 0).trans rfl, (uF BK336.out 1).trans rfl, (uF BK336.out 2).trans rfl, (uF BK342.out 0).trans rfl, (uF BK342.out 1).trans rfl, (uF BK342.out 2).trans rfl, (uF BK347.out 0).trans rfl, (uF BK347.out 1).trans rfl, (uF BK347.out 2).trans rfl⟩ (fun hHeld => ?_)
             clear hK K
             refine norm_ (a' := ?_) ?_ ?_
             rotate_left
             ·show uc _ (some 102) _ = _
              simp only [uc, uA, uB, uC, uZ, ua]
              rfl
             refine one_ (i := 3) (N := some 104) #[T,T,T,T,F,F,F,F,F,F,F,F,F,F,F,F,F,F,F,F,F,F,F,F,F,F,F,F,F,F,F,F,F,F] rfl rfl (one_of HT_.out (by kernel_rfl)) (by decide) (fun K hK => ?_)
             refine goes_ Tryd.func12 (by kernel_rfl) rfl #[.agg #[.int .i64 t333, .int .i64 t334, .int .i64 t335]] (by rfl) rfl rfl (by (try simp only [List.map_toArray, List.map_cons, List.map_nil]); first | done | rfl | (simp only [List.length_drop, List.length_take]; rfl)) ?_
             with_reducible refine (spec_FormatTag.calls k2 t333 t334 t335 t349 _ A57.out).mono ?_
             rintro e w88 ⟨rfl, hb⟩
             refine ⟨_, rfl, ?_⟩
             replace BK312 := uD (blk_below (pk BK312) hb)
             replace BK318 := uD (blk_below (pk BK318) hb)
             replace BK336 := uD (blk_below (pk BK336) hb)
             replace BK342 := uD (blk_below (pk BK342) hb)
             replace BK347 := uD (blk_below (pk BK347) hb)
             replace HB := uD (uO (pb HB) hb)
             (try clear hb)
             (try clear hb2)
             (try clear hk)
             (try clear hi)
             refine hK.out _ _ ⟨(uF BK336.out 0).trans rfl, (uF BK336.out 1).trans rfl, (uF BK336.out 2).trans rfl, (uF BK342.out 0).trans rfl, (uF BK342.out 1).trans rfl, (uF BK342.out 2).trans rfl, (uF BK347.out 0).trans rfl, (uF BK347.out 1).trans rfl, (uF BK347.out 2).trans rfl⟩ (fun hHeld => ?_)
             clear hK K
             refine norm_ (a' := ?_) ?_ ?_
             rotate_left
             ·show uc _ (some 104) _ = _
              simp only [uc, uA, uB, uC, uZ, ua]
              rfl
             refine pu 4 (some 105) #[T,T,T,T,T,F,F,F,F,F,F,F,F,F,F,F,F,F,F,F,F,F,F,F,F,F,F,F,F,F,F,F,F,F] HT_ ?_
             refine pu 5 (some 106) #[T,T,T,T,T,T,F,F,F,F,F,F,F,F,F,F,F,F,F,F,F,F,F,F,F,F,F,F,F,F,F,F,F,F] HT_ ?_
             refine tk 6 (some 107) #[T,T,T,T,T,T,T,F,F,F,F,F,F,F,F,F,F,F,F,F,F,F,F,F,F,F,F,F,F,F,F,F,F,F] HT_ HW_ hHeld ?_
             refine tk 9 (some 110) #[T,T,T,T,T,T,T,F,F,T,F,F,F,F,F,F,F,F,F,F,F,F,F,F,F,F,F,F,F,F,F,F,F,F] HT_ HW_ hHeld ?_
             refine one_ (i := 7) (N := some 108) #[T,T,T,T,T,T,T,T,F,T,F,F,F,F,F,F,F,F,F,F,F,F,F,F,F,F,F,F,F,F,F,F,F,F] rfl rfl (one_of HT_.out (by kernel_rfl)) (by decide) (fun K hK => ?_)
             refine goes_ Tryd.func14 (by kernel_rfl) rfl #[.agg #[.int .i64 t333, .int .i64 t334, .int .i64 t335]] (by rfl) rfl rfl (by (try simp only [List.map_toArray, List.map_cons, List.map_nil]); first | done | rfl | (simp only [List.length_drop, List.length_take]; rfl)) ?_
             with_reducible refine (impl_FormatTag.calls k2 t333 t334 t335 t350 _ ?side1 A59.out).mono ?_
             (case side1 => exact tb11 HTAB (pb HB))
             rintro e w89 ⟨rfl, hb⟩
             refine ⟨_, rfl, ?_⟩
             replace BK312 := uD (blk_below (pk BK312) hb)
             replace BK318 := uD (blk_below (pk BK318) hb)
             replace BK336 := uD (blk_below (pk BK336) hb)
             replace BK342 := uD (blk_below (pk BK342) hb)
             replace BK347 := uD (blk_below (pk BK347) hb)
             replace HB := uD (uO (pb HB) hb)
             (try clear hb)
             (try clear hb2)
             (try clear hk)
             (try clear hi)
             refine hK.out _ _ ⟨(uF BK336.out 0).trans rfl, (uF BK336.out 1).trans rfl, (uF BK336.out 2).trans rfl, (uF BK342.out 0).trans rfl, (uF BK342.out 1).trans rfl, (uF BK342.out 2).trans rfl, (uF BK347.out 0).trans rfl, (uF BK347.out 1).trans rfl, (uF BK347.out 2).trans rfl⟩ (fun hHeld => ?_)
             clear hK K
             refine norm_ (a' := ?_) ?_ ?_
             rotate_left
             ·show uc _ (some 108) _ = _
              simp only [uc, uA, uB, uC, uZ, ua]
              rfl
             refine pu 8 (some 109) #[T,T,T,T,T,T,T,T,T,T,F,F,F,F,F,F,F,F,F,F,F,F,F,F,F,F,F,F,F,F,F,F,F,F] HT_ ?_
             refine one_ (i := 10) (N := some 111) #[T,T,T,T,T,T,T,T,T,T,T,F,F,F,F,F,F,F,F,F,F,F,F,F,F,F,F,F,F,F,F,F,F,F] rfl rfl (one_of HT_.out (by kernel_rfl)) (by decide) (fun K hK => ?_)
             refine goes_ Tryd.func33 (by kernel_rfl) rfl #[.agg #[.int .i64 t333, .int .i64 t334, .int .i64 t335]] (by rfl) rfl rfl (by (try simp only [List.map_toArray, List.map_cons, List.map_nil]); first | done | rfl | (simp only [List.length_drop, List.length_take]; rfl)) ?_
             with_reducible refine (impl_TagOk.calls t333 t334 t335 t351 _ A60.out).mono ?_
             rintro e w90 ⟨rfl, hb⟩
             refine ⟨_, rfl, ?_⟩
             replace BK312 := uD (blk_below (pk BK312) hb)
             replace BK318 := uD (blk_below (pk BK318) hb)
             replace BK336 := uD (blk_below (pk BK336) hb)
             replace BK342 := uD (blk_below (pk BK342) hb)
             replace BK347 := uD (blk_below (pk BK347) hb)
             replace HB := uD (uO (pb HB) hb)
             (try clear hb)
             (try clear hb2)
             (try clear hk)
             (try clear hi)
             refine hK.out _ _ ⟨(uF BK336.out 0).trans rfl, (uF BK336.out 1).trans rfl, (uF BK336.out 2).trans rfl, (uF BK342.out 0).trans rfl, (uF BK342.out 1).trans rfl, (uF BK342.out 2).trans rfl, (uF BK347.out 0).trans rfl, (uF BK347.out 1).trans rfl, (uF BK347.out 2).trans rfl⟩ (fun hHeld => ?_)
             clear hK K
             refine norm_ (a' := ?_) ?_ ?_
             rotate_left
             ·show uc _ (some 111) _ = _
              simp only [uc, uA, uB, uC, uZ, ua]
              rfl
             refine pu 11 (some 112) #[T,T,T,T,T,T,T,T,T,T,T,T,F,F,F,F,F,F,F,F,F,F,F,F,F,F,F,F,F,F,F,F,F,F] HT_ ?_
             refine pu 12 (some 113) #[T,T,T,T,T,T,T,T,T,T,T,T,T,F,F,F,F,F,F,F,F,F,F,F,F,F,F,F,F,F,F,F,F,F] HT_ ?_
             refine pu 13 (some 114) #[T,T,T,T,T,T,T,T,T,T,T,T,T,T,F,F,F,F,F,F,F,F,F,F,F,F,F,F,F,F,F,F,F,F] HT_ ?_
             refine pu 14 (some 115) #[T,T,T,T,T,T,T,T,T,T,T,T,T,T,T,F,F,F,F,F,F,F,F,F,F,F,F,F,F,F,F,F,F,F] HT_ ?_
             refine pu 15 (some 116) #[T,T,T,T,T,T,T,T,T,T,T,T,T,T,T,T,F,F,F,F,F,F,F,F,F,F,F,F,F,F,F,F,F,F] HT_ ?_
             refine pu 16 (some 117) #[T,T,T,T,T,T,T,T,T,T,T,T,T,T,T,T,T,F,F,F,F,F,F,F,F,F,F,F,F,F,F,F,F,F] HT_ ?_
             refine pu 17 (some 118) #[T,T,T,T,T,T,T,T,T,T,T,T,T,T,T,T,T,T,F,F,F,F,F,F,F,F,F,F,F,F,F,F,F,F] HT_ ?_
             refine pu 18 (some 119) #[T,T,T,T,T,T,T,T,T,T,T,T,T,T,T,T,T,T,T,F,F,F,F,F,F,F,F,F,F,F,F,F,F,F] HT_ ?_
             refine tk 19 (some 120) #[T,T,T,T,T,T,T,T,T,T,T,T,T,T,T,T,T,T,T,T,F,F,F,F,F,F,F,F,F,F,F,F,F,F] HT_ HW_ hHeld ?_
             refine tk 20 (some 121) #[T,T,T,T,T,T,T,T,T,T,T,T,T,T,T,T,T,T,T,T,T,F,F,F,F,F,F,F,F,F,F,F,F,F] HT_ HW_ hHeld ?_
             refine pu 21 (some 122) #[T,T,T,T,T,T,T,T,T,T,T,T,T,T,T,T,T,T,T,T,T,T,F,F,F,F,F,F,F,F,F,F,F,F] HT_ ?_
             refine pu 22 (some 123) #[T,T,T,T,T,T,T,T,T,T,T,T,T,T,T,T,T,T,T,T,T,T,T,F,F,F,F,F,F,F,F,F,F,F] HT_ ?_
             refine pu 23 (some 124) #[T,T,T,T,T,T,T,T,T,T,T,T,T,T,T,T,T,T,T,T,T,T,T,T,F,F,F,F,F,F,F,F,F,F] HT_ ?_
             refine pu 24 (some 125) #[T,T,T,T,T,T,T,T,T,T,T,T,T,T,T,T,T,T,T,T,T,T,T,T,T,F,F,F,F,F,F,F,F,F] HT_ ?_
             refine pu 25 (some 126) #[T,T,T,T,T,T,T,T,T,T,T,T,T,T,T,T,T,T,T,T,T,T,T,T,T,T,F,F,F,F,F,F,F,F] HT_ ?_
             refine pu 26 (some 127) #[T,T,T,T,T,T,T,T,T,T,T,T,T,T,T,T,T,T,T,T,T,T,T,T,T,T,T,F,F,F,F,F,F,F] HT_ ?_
             refine pu 29 (some 130) #[T,T,T,T,T,T,T,T,T,T,T,T,T,T,T,T,T,T,T,T,T,T,T,T,T,T,T,F,F,T,F,F,F,F] HT_ ?_
             refine tk 27 (some 128) #[T,T,T,T,T,T,T,T,T,T,T,T,T,T,T,T,T,T,T,T,T,T,T,T,T,T,T,T,F,T,F,F,F,F] HT_ HW_ hHeld ?_
             refine one_ (i := 28) (N := some 129) #[T,T,T,T,T,T,T,T,T,T,T,T,T,T,T,T,T,T,T,T,T,T,T,T,T,T,T,T,T,T,F,F,F,F] rfl rfl (one_of HT_.out (by kernel_rfl)) (by decide) (fun K hK => ?_)
             refine goes_ Tryd.func14 (by kernel_rfl) rfl #[.agg #[.int .i64 t338, .int .i64 t339, .int .i64 t340]] (by rfl) rfl rfl (by (try simp only [List.map_toArray, List.map_cons, List.map_nil]); first | done | rfl | (simp only [List.length_drop, List.length_take]; rfl)) ?_
             with_reducible refine (impl_FormatTag.calls k2 t338 t339 t340 t352 _ ?side1 A65.out).mono ?_
             (case side1 => exact tb11 HTAB (pb HB))
             rintro e w91 ⟨rfl, hb⟩
             refine ⟨_, rfl, ?_⟩
             replace BK312 := uD (blk_below (pk BK312) hb)
             replace BK318 := uD (blk_below (pk BK318) hb)
             replace BK336 := uD (blk_below (pk BK336) hb)
             replace BK342 := uD (blk_below (pk BK342) hb)
             replace BK347 := uD (blk_below (pk BK347) hb)
             replace HB := uD (uO (pb HB) hb)
             (try clear hb)
             (try clear hb2)
             (try clear hk)
             (try clear hi)
             refine hK.out _ _ ⟨(uF BK336.out 0).trans rfl, (uF BK336.out 1).trans rfl, (uF BK336.out 2).trans rfl, (uF BK342.out 0).trans rfl, (uF BK342.out 1).trans rfl, (uF BK342.out 2).trans rfl, (uF BK347.out 0).trans rfl, (uF BK347.out 1).trans rfl, (uF BK347.out 2).trans rfl⟩ (fun hHeld => ?_)
             clear hK K
             refine norm_ (a' := ?_) ?_ ?_
             rotate_left
             ·show uc _ (some 129) _ = _
              simp only [uc, uA, uB, uC, uZ, ua]
              rfl
             refine pu 30 (some 131) #[T,T,T,T,T,T,T,T,T,T,T,T,T,T,T,T,T,T,T,T,T,T,T,T,T,T,T,T,T,T,T,F,F,F] HT_ ?_
             refine pu 31 (some 132) #[T,T,T,T,T,T,T,T,T,T,T,T,T,T,T,T,T,T,T,T,T,T,T,T,T,T,T,T,T,T,T,T,F,F] HT_ ?_
             refine pu 32 (some 133) #[T,T,T,T,T,T,T,T,T,T,T,T,T,T,T,T,T,T,T,T,T,T,T,T,T,T,T,T,T,T,T,T,T,F] HT_ ?_
             refine pu 33 (some 2) #[T,T,T,T,T,T,T,T,T,T,T,T,T,T,T,T,T,T,T,T,T,T,T,T,T,T,T,T,T,T,T,T,T,T] HT_ ?_
             refine done_ (done_of HT_.out (by kernel_rfl)) ?_
             try go_wp2
             go_ret
             exact ⟨by first | rfl | (simp [errW_none, errW_some] <;> rfl) | (simp [*, errW_none, errW_some] <;> rfl), pb HB⟩
            ·replace c64 := Bool.eq_false_iff.mpr c64
             subst c64
             have H1 : (some true) = some true := by rw [if_neg (show ¬ (false = true) by decide)] at H; first | done | exact H
             clear H
             have H := H1
             clear H1
             have HT := Option.some.inj H
             clear H
             try go_wp2_with (first | ((with_reducible refine gate_callee (f := 36) rfl ?_); refine gl (some 88) Tryd.func36 #[.slice A0 l0.length c0] ?_; (with_reducible refine (spec_DrawFormatTag.calls k2 _ _ l0 t333 t334 t335 _ ?side1 ?side2 A52.out).mono ?_); (case side1 => exact pc (Kd.C_below HR0.out HB.out)); (case side2 => exact HC0.out); rintro e w92 ⟨rfl, hb⟩; refine ⟨_, rfl, ?_⟩; replace BK312 := uD (blk_below (pk BK312) hb); replace BK318 := uD (blk_below (pk BK318) hb); replace HB := uD (uO (pb HB) hb); (try clear hb); (try clear hb2); (try clear hk); (try clear hi)) | ((with_reducible refine gate_dst (N := 11) rfl ?_); refine bx 11 #[.int .i64 0, .int .i64 0, .int .i64 0] 25 ?_; intro gb336 hg w93 hbox hb; have BK336 := uD (hbox); have GW336 := uD ((by rw [hg]; exact (uN (pb HB)) : w.heap.size ≤ gb336)); have GE336 := uD ((by rw [hg]; exact (uN (pb HB)) : w.heap.size ≤ gb336)); replace HB := uD (uO (pb HB) hb); have NB312_336 := uD ((by rw [hg]; exact Nat.ne_of_lt (blk_lt (pk BK312)) : gb312 ≠ gb336)); have NB336_312 := uD ((by rw [hg]; exact Nat.ne_of_gt (blk_lt (pk BK312)) : gb336 ≠ gb312)); replace BK312 := uD (blk_below (pk BK312) hb); have NB318_336 := uD ((by rw [hg]; exact Nat.ne_of_lt (blk_lt (pk BK318)) : gb318 ≠ gb336)); have NB336_318 := uD ((by rw [hg]; exact Nat.ne_of_gt (blk_lt (pk BK318)) : gb336 ≠ gb318)); replace BK318 := uD (blk_below (pk BK318) hb); clear hb hbox hg; have hnb94 := NB336_312.out; have hnc94 := NB312_336.out; have hnb95 := NB336_318.out; have hnc95 := NB318_336.out; obtain ⟨hcz96_0, hcz96_1, hcz96_2, hfz96_0, hfz96_1, hfz96_2⟩ := cz3 BK336) | ((with_reducible refine gate_callee (f := 37) rfl ?_); refine gl (some 90) Tryd.func37 #[.slice A0 l0.length c0] ?_; (with_reducible refine (spec_DrawParseTag.calls k2 _ _ l0 t337 _ ?side1 ?side2 A53.out).mono ?_); (case side1 => exact Kd.C_below HR0.out (pb HB)); (case side2 => exact HC0.out); rintro e w97 ⟨rfl, hb⟩; refine ⟨_, rfl, ?_⟩; replace BK312 := uD (blk_below (g := gb312) (o := .cells #[.int .i64 t309, .int .i64 t310, .int .i64 t311] 25 (0, 0)) (by exact ps BK312) hb); replace BK318 := uD (blk_below (g := gb318) (o := .cells #[.int .i64 t314, .int .i64 t315, .int .i64 t316] 25 (0, 0)) (by exact ps BK318) hb); replace BK336 := uD (blk_below (g := gb336) (o := .cells #[.int .i64 t333, .int .i64 t334, .int .i64 t335] 25 (0, 0)) (by (with_reducible repeat first|apply uH|apply uJ|apply uG); refine uP (cs := #[.int .i64 t333, .int .i64 t334, .int .i64 0]) ?_ 2 _ rfl; (with_reducible repeat first|apply uH|apply uJ|apply uG); refine uP (cs := #[.int .i64 t333, .int .i64 0, .int .i64 0]) ?_ 1 _ rfl; (with_reducible repeat first|apply uH|apply uJ|apply uG); refine uP (cs := #[.int .i64 0, .int .i64 0, .int .i64 0]) ?_ 0 _ rfl; (with_reducible repeat first|apply uH|apply uJ|apply uG); exact BK336.out) hb); replace HB := uD (uO (pb HB) hb); (try clear hb); (try clear hb2); (try clear hk); (try clear hi)) | ((with_reducible refine gate_callee (f := 16) rfl ?_); refine gl (some 93) Tryd.func16 #[.string t337] ?_; (with_reducible refine (impl_ParseTag.calls k2 t337 t338 t339 t340 false _ ?side1 A54.out).mono ?_); (case side1 => exact tb11 HTAB (pb HB)); rintro e w98 ⟨rfl, hb⟩; refine ⟨_, rfl, ?_⟩; replace BK312 := uD (blk_below (pk BK312) hb); replace BK318 := uD (blk_below (pk BK318) hb); replace BK336 := uD (blk_below (pk BK336) hb); replace HB := uD (uO (pb HB) hb); (try clear hb); (try clear hb2); (try clear hk); (try clear hi)) | ((with_reducible refine gate_dst (N := 13) rfl ?_); refine bx 13 #[.int .i64 0, .int .i64 0, .int .i64 0] 25 ?_; intro gb342 hg w99 hbox hb; have BK342 := uD (hbox); have GW342 := uD ((by rw [hg]; exact (uN (pb HB)) : w.heap.size ≤ gb342)); have GE342 := uD ((by rw [hg]; exact (uN (pb HB)) : w.heap.size ≤ gb342)); replace HB := uD (uO (pb HB) hb); have NB312_342 := uD ((by rw [hg]; exact Nat.ne_of_lt (blk_lt (pk BK312)) : gb312 ≠ gb342)); have NB342_312 := uD ((by rw [hg]; exact Nat.ne_of_gt (blk_lt (pk BK312)) : gb342 ≠ gb312)); replace BK312 := uD (blk_below (pk BK312) hb); have NB318_342 := uD ((by rw [hg]; exact Nat.ne_of_lt (blk_lt (pk BK318)) : gb318 ≠ gb342)); have NB342_318 := uD ((by rw [hg]; exact Nat.ne_of_gt (blk_lt (pk BK318)) : gb342 ≠ gb318)); replace BK318 := uD (blk_below (pk BK318) hb); have NB336_342 := uD ((by rw [hg]; exact Nat.ne_of_lt (blk_lt (pk BK336)) : gb336 ≠ gb342)); have NB342_336 := uD ((by rw [hg]; exact Nat.ne_of_gt (blk_lt (pk BK336)) : gb342 ≠ gb336)); replace BK336 := uD (blk_below (pk BK336) hb); clear hb hbox hg; have hnb100 := NB342_312.out; have hnc100 := NB312_342.out; have hnb101 := NB342_318.out; have hnc101 := NB318_342.out; have hnb102 := NB342_336.out; have hnc102 := NB336_342.out; obtain ⟨hcz103_0, hcz103_1, hcz103_2, hfz103_0, hfz103_1, hfz103_2⟩ := cz3 BK342) | ((with_reducible refine gate_callee (f := 15) rfl ?_); refine gl (some 98) Tryd.func15 #[.string t337] ?_; (with_reducible refine (spec_ParseTag.calls k2 t337 t343 t344 t345 t346 _ A55.out).mono ?_); rintro e w104 ⟨rfl, hb⟩; refine ⟨_, rfl, ?_⟩; replace BK312 := uD (blk_below (g := gb312) (o := .cells #[.int .i64 t309, .int .i64 t310, .int .i64 t311] 25 (0, 0)) (by exact ps BK312) hb); replace BK318 := uD (blk_below (g := gb318) (o := .cells #[.int .i64 t314, .int .i64 t315, .int .i64 t316] 25 (0, 0)) (by exact ps BK318) hb); replace BK336 := uD (blk_below (g := gb336) (o := .cells #[.int .i64 t333, .int .i64 t334, .int .i64 t335] 25 (0, 0)) (by exact ps BK336) hb); replace BK342 := uD (blk_below (g := gb342) (o := .cells #[.int .i64 t338, .int .i64 t339, .int .i64 t340] 25 (0, 0)) (by (with_reducible repeat first|apply uH|apply uJ|apply uG); refine uP (cs := #[.int .i64 t338, .int .i64 t339, .int .i64 0]) ?_ 2 _ rfl; (with_reducible repeat first|apply uH|apply uJ|apply uG); refine uP (cs := #[.int .i64 t338, .int .i64 0, .int .i64 0]) ?_ 1 _ rfl; (with_reducible repeat first|apply uH|apply uJ|apply uG); refine uP (cs := #[.int .i64 0, .int .i64 0, .int .i64 0]) ?_ 0 _ rfl; (with_reducible repeat first|apply uH|apply uJ|apply uG); exact BK342.out) hb); replace HB := uD (uO (pb HB) hb); (try clear hb); (try clear hb2); (try clear hk); (try clear hi)) | ((with_reducible refine gate_dst (N := 15) rfl ?_); refine bx 15 #[.int .i64 0, .int .i64 0, .int .i64 0] 25 ?_; intro gb347 hg w105 hbox hb; have BK347 := uD (hbox); have GW347 := uD ((by rw [hg]; exact (uN (pb HB)) : w.heap.size ≤ gb347)); have GE347 := uD ((by rw [hg]; exact (uN (pb HB)) : w.heap.size ≤ gb347)); replace HB := uD (uO (pb HB) hb); have NB312_347 := uD ((by rw [hg]; exact Nat.ne_of_lt (blk_lt (pk BK312)) : gb312 ≠ gb347)); have NB347_312 := uD ((by rw [hg]; exact Nat.ne_of_gt (blk_lt (pk BK312)) : gb347 ≠ gb312)); replace BK312 := uD (blk_below (pk BK312) hb); have NB318_347 := uD ((by rw [hg]; exact Nat.ne_of_lt (blk_lt (pk BK318)) : gb318 ≠ gb347)); have NB347_318 := uD ((by rw [hg]; exact Nat.ne_of_gt (blk_lt (pk BK318)) : gb347 ≠ gb318)); replace BK318 := uD (blk_below (pk BK318) hb); have NB336_347 := uD ((by rw [hg]; exact Nat.ne_of_lt (blk_lt (pk BK336)) : gb336 ≠ gb347)); have NB347_336 := uD ((by rw [hg]; exact Nat.ne_of_gt (blk_lt (pk BK336)) : gb347 ≠ gb336)); replace BK336 := uD (blk_below (pk BK336) hb); have NB342_347 := uD ((by rw [hg]; exact Nat.ne_of_lt (blk_lt (pk BK342)) : gb342 ≠ gb347)); have NB347_342 := uD ((by rw [hg]; exact Nat.ne_of_gt (blk_lt (pk BK342)) : gb347 ≠ gb342)); replace BK342 := uD (blk_below (pk BK342) hb); clear hb hbox hg; have hnb106 := NB347_312.out; have hnc106 := NB312_347.out; have hnb107 := NB347_318.out; have hnc107 := NB318_347.out; have hnb108 := NB347_336.out; have hnc108 := NB336_347.out; have hnb109 := NB347_342.out; have hnc109 := NB342_347.out; obtain ⟨hcz110_0, hcz110_1, hcz110_2, hfz110_0, hfz110_1, hfz110_2⟩ := cz3 BK347))
             have n0_ : Aside0 ((((w105.setCell ⟨gb347, 0, none⟩ (.int .i64 t343)).setCell ⟨gb347, 1, none⟩ (.int .i64 t344)).setCell ⟨gb347, 2, none⟩ (.int .i64 t345)).heap[gb312]? = some (.cells #[.int .i64 t309, .int .i64 t310, .int .i64 t311] 25 (0, 0))) := ⟨by exact ps BK312⟩
             have n1_ : Aside0 ((((w105.setCell ⟨gb347, 0, none⟩ (.int .i64 t343)).setCell ⟨gb347, 1, none⟩ (.int .i64 t344)).setCell ⟨gb347, 2, none⟩ (.int .i64 t345)).heap[gb318]? = some (.cells #[.int .i64 t314, .int .i64 t315, .int .i64 t316] 25 (0, 0))) := ⟨by exact ps BK318⟩
             have n2_ : Aside0 ((((w105.setCell ⟨gb347, 0, none⟩ (.int .i64 t343)).setCell ⟨gb347, 1, none⟩ (.int .i64 t344)).setCell ⟨gb347, 2, none⟩ (.int .i64 t345)).heap[gb336]? = some (.cells #[.int .i64 t333, .int .i64 t334, .int .i64 t335] 25 (0, 0))) := ⟨by exact ps BK336⟩
             have n3_ : Aside0 ((((w105.setCell ⟨gb347, 0, none⟩ (.int .i64 t343)).setCell ⟨gb347, 1, none⟩ (.int .i64 t344)).setCell ⟨gb347, 2, none⟩ (.int .i64 t345)).heap[gb342]? = some (.cells #[.int .i64 t338, .int .i64 t339, .int .i64 t340] 25 (0, 0))) := ⟨by exact ps BK342⟩
             have n4_ : Aside0 ((((w105.setCell ⟨gb347, 0, none⟩ (.int .i64 t343)).setCell ⟨gb347, 1, none⟩ (.int .i64 t344)).setCell ⟨gb347, 2, none⟩ (.int .i64 t345)).heap[gb347]? = some (.cells #[.int .i64 t343, .int .i64 t344, .int .i64 t345] 25 (0, 0))) := ⟨by (with_reducible repeat first|apply uH|apply uJ|apply uG); refine uP (cs := #[.int .i64 t343, .int .i64 t344, .int .i64 0]) ?_ 2 _ rfl; (with_reducible repeat first|apply uH|apply uJ|apply uG); refine uP (cs := #[.int .i64 t343, .int .i64 0, .int .i64 0]) ?_ 1 _ rfl; (with_reducible repeat first|apply uH|apply uJ|apply uG); refine uP (cs := #[.int .i64 0, .int .i64 0, .int .i64 0]) ?_ 0 _ rfl; (with_reducible repeat first|apply uH|apply uJ|apply uG); exact BK347.out⟩
             have n5_ : Aside0 (Below w.heap.size w (((w105.setCell ⟨gb347, 0, none⟩ (.int .i64 t343)).setCell ⟨gb347, 1, none⟩ (.int .i64 t344)).setCell ⟨gb347, 2, none⟩ (.int .i64 t345))) := ⟨pb HB⟩
             (try clear BK312)
             (try clear BK318)
             (try clear BK336)
             (try clear BK342)
             (try clear BK347)
             (try clear HB)
             generalize (((w105.setCell ⟨gb347, 0, none⟩ (.int .i64 t343)).setCell ⟨gb347, 1, none⟩ (.int .i64 t344)).setCell ⟨gb347, 2, none⟩ (.int .i64 t345)) = w111 at n0_ n1_ n2_ n3_ n4_ n5_ ⊢
             have BK312 := n0_
             have BK318 := n1_
             have BK336 := n2_
             have BK342 := n3_
             have BK347 := n4_
             have HB := n5_
             clear n0_ n1_ n2_ n3_ n4_ n5_
             replace BK312 := uD (uJ BK312.out)
             replace BK318 := uD (uJ BK318.out)
             replace BK336 := uD (uJ BK336.out)
             replace BK342 := uD (uJ BK342.out)
             replace BK347 := uD (uJ BK347.out)
             replace HB := uD (uK HB.out)
             refine start_ (n := 34) (S := fun w' => w'.cell? ⟨gb336, 0, none⟩ = some (.int .i64 t333) ∧ w'.cell? ⟨gb336, 1, none⟩ = some (.int .i64 t334) ∧ w'.cell? ⟨gb336, 2, none⟩ = some (.int .i64 t335) ∧ w'.cell? ⟨gb342, 0, none⟩ = some (.int .i64 t338) ∧ w'.cell? ⟨gb342, 1, none⟩ = some (.int .i64 t339) ∧ w'.cell? ⟨gb342, 2, none⟩ = some (.int .i64 t340) ∧ w'.cell? ⟨gb347, 0, none⟩ = some (.int .i64 t343) ∧ w'.cell? ⟨gb347, 1, none⟩ = some (.int .i64 t344) ∧ w'.cell? ⟨gb347, 2, none⟩ = some (.int .i64 t345)) (ds := []) #[F,F,F,F,F,F,F,F,F,F,F,F,F,F,F,F,F,F,F,F,F,F,F,F,F,F,F,F,F,F,F,F,F,F] (by kernel_rfl) rfl rfl ⟨(uF BK336.out 0).trans rfl, (uF BK336.out 1).trans rfl, (uF BK336.out 2).trans rfl, (uF BK342.out 0).trans rfl, (uF BK342.out 1).trans rfl, (uF BK342.out 2).trans rfl, (uF BK347.out 0).trans rfl, (uF BK347.out 1).trans rfl, (uF BK347.out 2).trans rfl⟩ (fun hHeld => ?_); refine with_tabW laws_FnTags.tab19 laws_FnTags.bits19 (fun HT_ HW_ => ?_)
             generalize w111.drew = w112 at BK312 BK318 BK336 BK342 BK347 HB hHeld ⊢
             refine tk 0 (some 101) #[T,F,F,F,F,F,F,F,F,F,F,F,F,F,F,F,F,F,F,F,F,F,F,F,F,F,F,F,F,F,F,F,F,F] HT_ HW_ hHeld ?_
             refine tk 2 (some 103) #[T,F,T,F,F,F,F,F,F,F,F,F,F,F,F,F,F,F,F,F,F,F,F,F,F,F,F,F,F,F,F,F,F,F] HT_ HW_ hHeld ?_
             refine one_ (i := 1) (N := some 102) #[T,T,T,F,F,F,F,F,F,F,F,F,F,F,F,F,F,F,F,F,F,F,F,F,F,F,F,F,F,F,F,F,F,F] rfl rfl (one_of HT_.out (by kernel_rfl)) (by decide) (fun K hK => ?_)
             refine goes_ Tryd.func14 (by kernel_rfl) rfl #[.agg #[.int .i64 t333, .int .i64 t334, .int .i64 t335]] (by rfl) rfl rfl (by (try simp only [List.map_toArray, List.map_cons, List.map_nil]); first | done | rfl | (simp only [List.length_drop, List.length_take]; rfl)) ?_
             with_reducible refine (impl_FormatTag.calls k2 t333 t334 t335 t348 _ ?side1 A56.out).mono ?_
             (case side1 => exact tb11 HTAB (pb HB))
             rintro e w113 ⟨rfl, hb⟩
             refine ⟨_, rfl, ?_⟩
             replace BK312 := uD (blk_below (pk BK312) hb)
             replace BK318 := uD (blk_below (pk BK318) hb)
             replace BK336 := uD (blk_below (pk BK336) hb)
             replace BK342 := uD (blk_below (pk BK342) hb)
             replace BK347 := uD (blk_below (pk BK347) hb)
             replace HB := uD (uO (pb HB) hb)
             (try clear hb)
             (try clear hb2)
             (try clear hk)
             (try clear hi)
             refine hK.out _ _ ⟨(uF BK336.out 0).trans rfl, (uF BK336.out 1).trans rfl, (uF BK336.out 2).trans rfl, (uF BK342.out 0).trans rfl, (uF BK342.out 1).trans rfl, (uF BK342.out 2).trans rfl, (uF BK347.out 0).trans rfl, (uF BK347.out 1).trans rfl, (uF BK347.out 2).trans rfl⟩ (fun hHeld => ?_)
             clear hK K
             refine norm_ (a' := ?_) ?_ ?_
             rotate_left
             ·show uc _ (some 102) _ = _
              simp only [uc, uA, uB, uC, uZ, ua]
              rfl
             refine one_ (i := 3) (N := some 104) #[T,T,T,T,F,F,F,F,F,F,F,F,F,F,F,F,F,F,F,F,F,F,F,F,F,F,F,F,F,F,F,F,F,F] rfl rfl (one_of HT_.out (by kernel_rfl)) (by decide) (fun K hK => ?_)
             refine goes_ Tryd.func12 (by kernel_rfl) rfl #[.agg #[.int .i64 t333, .int .i64 t334, .int .i64 t335]] (by rfl) rfl rfl (by (try simp only [List.map_toArray, List.map_cons, List.map_nil]); first | done | rfl | (simp only [List.length_drop, List.length_take]; rfl)) ?_
             with_reducible refine (spec_FormatTag.calls k2 t333 t334 t335 t349 _ A57.out).mono ?_
             rintro e w114 ⟨rfl, hb⟩
             refine ⟨_, rfl, ?_⟩
             replace BK312 := uD (blk_below (pk BK312) hb)
             replace BK318 := uD (blk_below (pk BK318) hb)
             replace BK336 := uD (blk_below (pk BK336) hb)
             replace BK342 := uD (blk_below (pk BK342) hb)
             replace BK347 := uD (blk_below (pk BK347) hb)
             replace HB := uD (uO (pb HB) hb)
             (try clear hb)
             (try clear hb2)
             (try clear hk)
             (try clear hi)
             refine hK.out _ _ ⟨(uF BK336.out 0).trans rfl, (uF BK336.out 1).trans rfl, (uF BK336.out 2).trans rfl, (uF BK342.out 0).trans rfl, (uF BK342.out 1).trans rfl, (uF BK342.out 2).trans rfl, (uF BK347.out 0).trans rfl, (uF BK347.out 1).trans rfl, (uF BK347.out 2).trans rfl⟩ (fun hHeld => ?_)
             clear hK K
             refine norm_ (a' := ?_) ?_ ?_
             rotate_left
             ·show uc _ (some 104) _ = _
              simp only [uc, uA, uB, uC, uZ, ua]
              rfl
             refine pu 4 (some 105) #[T,T,T,T,T,F,F,F,F,F,F,F,F,F,F,F,F,F,F,F,F,F,F,F,F,F,F,F,F,F,F,F,F,F] HT_ ?_
             refine pu 5 (some 106) #[T,T,T,T,T,T,F,F,F,F,F,F,F,F,F,F,F,F,F,F,F,F,F,F,F,F,F,F,F,F,F,F,F,F] HT_ ?_
             refine tk 6 (some 107) #[T,T,T,T,T,T,T,F,F,F,F,F,F,F,F,F,F,F,F,F,F,F,F,F,F,F,F,F,F,F,F,F,F,F] HT_ HW_ hHeld ?_
             refine tk 9 (some 110) #[T,T,T,T,T,T,T,F,F,T,F,F,F,F,F,F,F,F,F,F,F,F,F,F,F,F,F,F,F,F,F,F,F,F] HT_ HW_ hHeld ?_
             refine one_ (i := 7) (N := some 108) #[T,T,T,T,T,T,T,T,F,T,F,F,F,F,F,F,F,F,F,F,F,F,F,F,F,F,F,F,F,F,F,F,F,F] rfl rfl (one_of HT_.out (by kernel_rfl)) (by decide) (fun K hK => ?_)
             refine goes_ Tryd.func14 (by kernel_rfl) rfl #[.agg #[.int .i64 t333, .int .i64 t334, .int .i64 t335]] (by rfl) rfl rfl (by (try simp only [List.map_toArray, List.map_cons, List.map_nil]); first | done | rfl | (simp only [List.length_drop, List.length_take]; rfl)) ?_
             with_reducible refine (impl_FormatTag.calls k2 t333 t334 t335 t350 _ ?side1 A59.out).mono ?_
             (case side1 => exact tb11 HTAB (pb HB))
             rintro e w115 ⟨rfl, hb⟩
             refine ⟨_, rfl, ?_⟩
             replace BK312 := uD (blk_below (pk BK312) hb)
             replace BK318 := uD (blk_below (pk BK318) hb)
             replace BK336 := uD (blk_below (pk BK336) hb)
             replace BK342 := uD (blk_below (pk BK342) hb)
             replace BK347 := uD (blk_below (pk BK347) hb)
             replace HB := uD (uO (pb HB) hb)
             (try clear hb)
             (try clear hb2)
             (try clear hk)
             (try clear hi)
             refine hK.out _ _ ⟨(uF BK336.out 0).trans rfl, (uF BK336.out 1).trans rfl, (uF BK336.out 2).trans rfl, (uF BK342.out 0).trans rfl, (uF BK342.out 1).trans rfl, (uF BK342.out 2).trans rfl, (uF BK347.out 0).trans rfl, (uF BK347.out 1).trans rfl, (uF BK347.out 2).trans rfl⟩ (fun hHeld => ?_)
             clear hK K
             refine norm_ (a' := ?_) ?_ ?_
             rotate_left
             ·show uc _ (some 108) _ = _
              simp only [uc, uA, uB, uC, uZ, ua]
              rfl
             refine pu 8 (some 109) #[T,T,T,T,T,T,T,T,T,T,F,F,F,F,F,F,F,F,F,F,F,F,F,F,F,F,F,F,F,F,F,F,F,F] HT_ ?_
             refine one_ (i := 10) (N := some 111) #[T,T,T,T,T,T,T,T,T,T,T,F,F,F,F,F,F,F,F,F,F,F,F,F,F,F,F,F,F,F,F,F,F,F] rfl rfl (one_of HT_.out (by kernel_rfl)) (by decide) (fun K hK => ?_)
             refine goes_ Tryd.func33 (by kernel_rfl) rfl #[.agg #[.int .i64 t333, .int .i64 t334, .int .i64 t335]] (by rfl) rfl rfl (by (try simp only [List.map_toArray, List.map_cons, List.map_nil]); first | done | rfl | (simp only [List.length_drop, List.length_take]; rfl)) ?_
             with_reducible refine (impl_TagOk.calls t333 t334 t335 t351 _ A60.out).mono ?_
             rintro e w116 ⟨rfl, hb⟩
             refine ⟨_, rfl, ?_⟩
             replace BK312 := uD (blk_below (pk BK312) hb)
             replace BK318 := uD (blk_below (pk BK318) hb)
             replace BK336 := uD (blk_below (pk BK336) hb)
             replace BK342 := uD (blk_below (pk BK342) hb)
             replace BK347 := uD (blk_below (pk BK347) hb)
             replace HB := uD (uO (pb HB) hb)
             (try clear hb)
             (try clear hb2)
             (try clear hk)
             (try clear hi)
             refine hK.out _ _ ⟨(uF BK336.out 0).trans rfl, (uF BK336.out 1).trans rfl, (uF BK336.out 2).trans rfl, (uF BK342.out 0).trans rfl, (uF BK342.out 1).trans rfl, (uF BK342.out 2).trans rfl, (uF BK347.out 0).trans rfl, (uF BK347.out 1).trans rfl, (uF BK347.out 2).trans rfl⟩ (fun hHeld => ?_)
             clear hK K
             refine norm_ (a' := ?_) ?_ ?_
             rotate_left
             ·show uc _ (some 111) _ = _
              simp only [uc, uA, uB, uC, uZ, ua]
              rfl
             refine pu 11 (some 112) #[T,T,T,T,T,T,T,T,T,T,T,T,F,F,F,F,F,F,F,F,F,F,F,F,F,F,F,F,F,F,F,F,F,F] HT_ ?_
             refine pu 12 (some 113) #[T,T,T,T,T,T,T,T,T,T,T,T,T,F,F,F,F,F,F,F,F,F,F,F,F,F,F,F,F,F,F,F,F,F] HT_ ?_
             refine pu 13 (some 114) #[T,T,T,T,T,T,T,T,T,T,T,T,T,T,F,F,F,F,F,F,F,F,F,F,F,F,F,F,F,F,F,F,F,F] HT_ ?_
             refine pu 14 (some 115) #[T,T,T,T,T,T,T,T,T,T,T,T,T,T,T,F,F,F,F,F,F,F,F,F,F,F,F,F,F,F,F,F,F,F] HT_ ?_
             refine pu 15 (some 116) #[T,T,T,T,T,T,T,T,T,T,T,T,T,T,T,T,F,F,F,F,F,F,F,F,F,F,F,F,F,F,F,F,F,F] HT_ ?_
             refine pu 16 (some 117) #[T,T,T,T,T,T,T,T,T,T,T,T,T,T,T,T,T,F,F,F,F,F,F,F,F,F,F,F,F,F,F,F,F,F] HT_ ?_
             refine pu 17 (some 118) #[T,T,T,T,T,T,T,T,T,T,T,T,T,T,T,T,T,T,F,F,F,F,F,F,F,F,F,F,F,F,F,F,F,F] HT_ ?_
             refine pu 18 (some 119) #[T,T,T,T,T,T,T,T,T,T,T,T,T,T,T,T,T,T,T,F,F,F,F,F,F,F,F,F,F,F,F,F,F,F] HT_ ?_
             refine tk 19 (some 120) #[T,T,T,T,T,T,T,T,T,T,T,T,T,T,T,T,T,T,T,T,F,F,F,F,F,F,F,F,F,F,F,F,F,F] HT_ HW_ hHeld ?_
             refine tk 20 (some 121) #[T,T,T,T,T,T,T,T,T,T,T,T,T,T,T,T,T,T,T,T,T,F,F,F,F,F,F,F,F,F,F,F,F,F] HT_ HW_ hHeld ?_
             refine pu 21 (some 122) #[T,T,T,T,T,T,T,T,T,T,T,T,T,T,T,T,T,T,T,T,T,T,F,F,F,F,F,F,F,F,F,F,F,F] HT_ ?_
             refine pu 22 (some 123) #[T,T,T,T,T,T,T,T,T,T,T,T,T,T,T,T,T,T,T,T,T,T,T,F,F,F,F,F,F,F,F,F,F,F] HT_ ?_
             refine pu 23 (some 124) #[T,T,T,T,T,T,T,T,T,T,T,T,T,T,T,T,T,T,T,T,T,T,T,T,F,F,F,F,F,F,F,F,F,F] HT_ ?_
             refine pu 24 (some 125) #[T,T,T,T,T,T,T,T,T,T,T,T,T,T,T,T,T,T,T,T,T,T,T,T,T,F,F,F,F,F,F,F,F,F] HT_ ?_
             refine pu 25 (some 126) #[T,T,T,T,T,T,T,T,T,T,T,T,T,T,T,T,T,T,T,T,T,T,T,T,T,T,F,F,F,F,F,F,F,F] HT_ ?_
             refine pu 26 (some 127) #[T,T,T,T,T,T,T,T,T,T,T,T,T,T,T,T,T,T,T,T,T,T,T,T,T,T,T,F,F,F,F,F,F,F] HT_ ?_
             refine ub (i := 27) (N := some 128) (v := undef) (a' := ?_) #[T,T,T,T,T,T,T,T,T,T,T,T,T,T,T,T,T,T,T,T,T,T,T,T,T,T,T,T,F,F,F,F,F,F] rfl rfl (uY HT_.out (by kernel_rfl)) (fun _ _ _ h => h) (Or.inr ⟨by rfl, rfl⟩) ?_ ?_
             rotate_left
             ·simp only [uc, uA, uB, uC, uZ, ua]
              rfl
             refine ub (i := 28) (N := some 129) (v := undef) (a' := ?_) #[T,T,T,T,T,T,T,T,T,T,T,T,T,T,T,T,T,T,T,T,T,T,T,T,T,T,T,T,T,F,F,F,F,F] rfl rfl (uY HT_.out (by kernel_rfl)) (fun _ _ _ h => h) (Or.inr ⟨by rfl, rfl⟩) ?_ ?_
             rotate_left
             ·simp only [uc, uA, uB, uC, uZ, ua]
              rfl
             refine ub (i := 29) (N := some 130) (v := undef) (a' := ?_) #[T,T,T,T,T,T,T,T,T,T,T,T,T,T,T,T,T,T,T,T,T,T,T,T,T,T,T,T,T,T,F,F,F,F] rfl rfl (uY HT_.out (by kernel_rfl)) (fun _ _ _ h => h) (Or.inr ⟨by rfl, rfl⟩) ?_ ?_
             rotate_left
             ·simp only [uc, uA, uB, uC, uZ, ua]
              rfl
             refine ub (i := 30) (N := some 131) (v := undef) (a' := ?_) #[T,T,T,T,T,T,T,T,T,T,T,T,T,T,T,T,T,T,T,T,T,T,T,T,T,T,T,T,T,T,T,F,F,F] rfl rfl (uY HT_.out (by kernel_rfl)) (fun _ _ _ h => h) (Or.inr ⟨by rfl, rfl⟩) ?_ ?_
             rotate_left
             ·simp only [uc, uA, uB, uC, uZ, ua]
              rfl
             refine pu 31 (some 132) #[T,T,T,T,T,T,T,T,T,T,T,T,T,T,T,T,T,T,T,T,T,T,T,T,T,T,T,T,T,T,T,T,F,F] HT_ ?_
             refine pu 32 (some 133) #[T,T,T,T,T,T,T,T,T,T,T,T,T,T,T,T,T,T,T,T,T,T,T,T,T,T,T,T,T,T,T,T,T,F] HT_ ?_
             refine pu 33 (some 2) #[T,T,T,T,T,T,T,T,T,T,T,T,T,T,T,T,T,T,T,T,T,T,T,T,T,T,T,T,T,T,T,T,T,T] HT_ ?_
             refine done_ (done_of HT_.out (by kernel_rfl)) ?_
             try go_wp2
             go_ret
             exact ⟨by first | rfl | (simp [errW_none, errW_some] <;> rfl) | (simp [*, errW_none, errW_some] <;> rfl), pb HB⟩
           ·rw [if_neg c63] at H
            have c63b0 : (t338 == t343 && (t339 == t344 && (t340 == t345))) = false := by simpa using c63
            (try (have c63b1 : decide (t338 = t343 && (t339 == t344 && (t340 == t345))) = false := by simpa using c63))
            (try (have c63b2 : (t338 == t343 && (t339 == t344 && (t340 == t345))) = false := by simpa using c63))
            (try (have c63b3 : ¬ (t338 = t343 && (t339 == t344 && (t340 == t345))) := by simpa using c63))
            clear c63
            exact absurd H (by simp)
          ·rw [if_neg c62] at H
           have c62b0 : (t341 == t346) = false := by simpa using c62
           (try (have c62b1 : decide (t341 = t346) = false := by simpa using c62))
           (try (have c62b2 : (t341 == t346) = false := by simpa using c62))
           (try (have c62b3 : ¬ (t341 = t346) := by simpa using c62))
           clear c62
           exact absurd H (by simp)
         ·rw [if_neg c61] at H
          have c61b0 : ((t350.toList != ([] : List UInt8)) == t351) = false := by simpa using c61
          have c61e : ((!t350.toList.isEmpty) == t351) = false := (show (t350.toList != ([] : List UInt8)) = !t350.toList.isEmpty by cases t350.toList <;> rfl) ▸ c61b0
          (try (have c61b1 : decide ((t350.toList != ([] : List UInt8)) = t351) = false := by simpa using c61))
          (try (have c61b2 : ((t350.toList != ([] : List UInt8)) == t351) = false := by simpa using c61))
          (try (have c61b3 : ¬ ((t350.toList != ([] : List UInt8)) = t351) := by simpa using c61))
          clear c61
          exact absurd H (by simp)
        ·rw [if_neg c58] at H
         have c58b0 : (t348.toList == t349.toList) = false := beq_eq_false_iff_ne.mpr c58
         have c58b1 : (t348.toList != t349.toList) = true := bne_iff_ne.mpr c58
         exact absurd H (by simp)

/-- THE ONE PURE STATEMENT of laws_FnTags: yours. -/
def laws_FnTags.Pure : Prop := ∀ (l0 : List Int), l0.length ≤ maxLen → l0.length * 1 ≤ 140737488351232 → (∀ x ∈ l0, (Lit.int .u8 x).wf = true) → ∃ k, laws_FnTags.f k l0 = some true
theorem laws_FnTags.walk (P : laws_FnTags.Pure) (a0 : Option Addr) (len0 cap0 : Nat) (z0 : List Int) (w : World) (w0 : (a0 = none ∧ len0 = 0 ∧ cap0 = 0 ∧ z0 = []) ∨ ∃ x, a0 = some x ∧ len0 ≤ cap0 ∧ cap0 ≤ maxLen ∧ z0.length = cap0 ∧ (∀ i, i < z0.length → w.cell? (x.add i) = some (.int .u8 (z0.getD i 0))) ∧ ∀ n ∈ z0, (Lit.int .u8 n).wf = true) (y0 : len0 * 1 ≤ 140737488351232) (htab : Tab1 Tryd.prog w) :
  Calls Tryd.prog 9 #[.slice a0 len0 cap0] w fun e w' => e = .returned (.bool true) ∧ Below w.heap.size w w' := by
 obtain ⟨l0, rfl, hr0, hm0, hw0, hc0⟩ := ReadsInt.ofRowC w0
 obtain ⟨k, h⟩ := P l0 hm0 y0 hw0
 refine (laws_FnTags.calls k _ _ l0 w (Kd.C_of_reads (d := (0 : Int)) (h1 := fun _ => rfl) hr0) hc0 htab h).mono ?_
 rintro e w' ⟨rfl, hd⟩
 exact ⟨rfl, hd⟩

end Go.Proofs.YtnkaimdcdedekaaDoor.PFnTags
