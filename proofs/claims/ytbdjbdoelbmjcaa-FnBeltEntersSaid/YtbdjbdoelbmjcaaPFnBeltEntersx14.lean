-- Written by a program of this session (wip/myprint.py: the kit's print with changes): not by print.sh itself.
import Derived.Test.YtbdjbdoelbmjcaaPFnBeltEntersx0
import Derived.Test.YtbdjbdoelbmjcaaPFnBeltEntersx3
import Derived.Test.YtbdjbdoelbmjcaaPFnBeltEntersx5
import Derived.Test.YtbdjbdoelbmjcaaPFnBeltEntersx6
import Derived.Test.YtbdjbdoelbmjcaaPFnBeltEntersx7
import Derived.Test.YtbdjbdoelbmjcaaPFnBeltEntersx8
import Derived.Test.YtbdjbdoelbmjcaaPFnBeltEntersx9
import Derived.Test.YtbdjbdoelbmjcaaPFnBeltEntersx10
import Derived.Test.YtbdjbdoelbmjcaaPFnBeltEntersx13
namespace Go.Proofs.Ytbdjbdoelbmjcaa.PFnBeltEnters
open Go.RowKit Go.Proofs.YtbdjbdoelbmjcaaW.PrintWords Go.Proofs.YtbdjbdoelbmjcaaW.PrintLast Go.Proofs.YtbdjbdoelbmjcaaW.PrintMore
open Go renaming Act.put → uc
open Go.Proofs.YtbdjbdoelbmjcaaW.PrintLast renaming i64_w → uZ, i32_w → ua
open Go.Proofs.YtbdjbdoelbmjcaaW.PrintWords renaming Aside0.mk → uD, blk_cell → uF, blk_alloc → uG, blk_drewN → uH, blk_drew → uJ, below_drew1 → uK, below_size → uN, below_step → uO, blk_put → uP, Kd.R_drewN → uS, Kd.R_drew → uT, Kd.R_alloc → uU, Kd.R_far → uV, Kd.R_types → uW, Kd.R_mono → uX
open List renaming setIfInBounds_toArray → uA, set_cons_zero → uB, set_cons_succ → uC
open Bool renaming true → T, false → F
attribute [local go_sem] max2_int min2_int max_two min_two max_three min_three max_four min_four   -- for this text's walks alone
set_option linter.unusedVariables false
set_option linter.unusedSimpArgs false

/-! ### laws_FnBeltEnters: function 14 -/
def laws_FnBeltEnters.j0 : Nat → Int → Int → Bool → Bool → Int → Int → Bool → List (S53) → Int → Int → Bool → List (S53) → Option (Bool)
 | 0, _, _, _, _, _, _, _, _, _, _, _, _ => none
 | k + 1, x4, x5, x7, x88, x413000, x413001, x413002, x413003, x421000, x421001, x421002, x421003 => if x88 = true then (some false) else (if x7 = true then ((impl_BeltOk.f k x421000 x421001 x421002 x421003).bind fun t454 => (if t454 = true then ((impl_CoverAt.f k x421000 x421001 x421002 x421003 1).bind fun t455 => (if t455 = x4 then ((impl_CoverAt.f k x421000 x421001 x421002 x421003 x5).bind fun t456 => (if t456 = x4 then ((impl_CoverAt.f k x421000 x421001 x421002 x421003 (wrap64 (x5 + 1))).bind fun t457 => ((impl_CoverAt.f k x413000 x413001 x413002 x413003 (wrap64 (x5 + 1))).bind fun t458 => (if t457 = t458 then ((impl_CoverAt.f k x421000 x421001 x421002 x421003 0).bind fun t459 => (some (t459 == 0))) else (some false)))) else (some false))) else (some false))) else (some false))) else ((laws_sameBelt.f k x421000 x421001 x421002 x421003 x413000 x413001 x413002 x413003).bind fun t453 => (some t453)))
def laws_FnBeltEnters.f (k : Nat) (l0 : List Int) : Option (Bool) := (laws_big.f l0).bind fun t403 => (if t403 = true then (some true) else ((spec_DrawEnter.f k l0).bind fun bt404 => ((impl_Enter.f k bt404.1 bt404.2.1 bt404.2.2.1 bt404.2.2.2.1 bt404.2.2.2.2.1 bt404.2.2.2.2.2).bind fun bt413 => ((spec_Enter.f k bt404.1 bt404.2.1 bt404.2.2.1 bt404.2.2.2.1 bt404.2.2.2.2.1 bt404.2.2.2.2.2).bind fun bt421 => ((impl_Leave.f k bt404.1 bt404.2.1 bt404.2.2.1 bt404.2.2.2.1).bind fun bt429 => ((spec_Leave.f k bt404.1 bt404.2.1 bt404.2.2.1 bt404.2.2.2.1).bind fun bt438 => (if (bt413.2.2.2.2 != bt421.2.2.2.2) = true then (laws_FnBeltEnters.j0 k bt404.2.2.2.2.1 bt404.2.2.2.2.2 bt413.2.2.2.2 true bt404.1 bt404.2.1 bt404.2.2.1 bt404.2.2.2.1 bt413.1 bt413.2.1 bt413.2.2.1 bt413.2.2.2.1) else ((laws_sameBelt.f k bt413.1 bt413.2.1 bt413.2.2.1 bt413.2.2.2.1 bt421.1 bt421.2.1 bt421.2.2.1 bt421.2.2.2.1).bind fun t447 => (if t447 = true then (if (bt429.2.2.2.2.2 != bt438.2.2.2.2.2) = true then (laws_FnBeltEnters.j0 k bt404.2.2.2.2.1 bt404.2.2.2.2.2 bt413.2.2.2.2 true bt404.1 bt404.2.1 bt404.2.2.1 bt404.2.2.2.1 bt413.1 bt413.2.1 bt413.2.2.1 bt413.2.2.2.1) else (if bt429.2.2.2.2.1 = bt438.2.2.2.2.1 then ((laws_sameBelt.f k bt429.1 bt429.2.1 bt429.2.2.1 bt429.2.2.2.1 bt438.1 bt438.2.1 bt438.2.2.1 bt438.2.2.2.1).bind fun t448 => (if t448 = true then ((impl_Backlog.f k bt404.1 bt404.2.1 bt404.2.2.1 bt404.2.2.2.1).bind fun t449 => ((spec_Backlog.f k bt404.1 bt404.2.1 bt404.2.2.1 bt404.2.2.2.1).bind fun t450 => (if t449 = t450 then ((impl_FreeBehind.f k bt404.1 bt404.2.1 bt404.2.2.1 bt404.2.2.2.1).bind fun t451 => ((spec_FreeBehind.f k bt404.1 bt404.2.1 bt404.2.2.1 bt404.2.2.2.1).bind fun t452 => (laws_FnBeltEnters.j0 k bt404.2.2.2.2.1 bt404.2.2.2.2.2 bt413.2.2.2.2 (t451 != t452) bt404.1 bt404.2.1 bt404.2.2.1 bt404.2.2.2.1 bt413.1 bt413.2.1 bt413.2.2.1 bt413.2.2.2.1))) else (laws_FnBeltEnters.j0 k bt404.2.2.2.2.1 bt404.2.2.2.2.2 bt413.2.2.2.2 true bt404.1 bt404.2.1 bt404.2.2.1 bt404.2.2.2.1 bt413.1 bt413.2.1 bt413.2.2.1 bt413.2.2.2.1)))) else (laws_FnBeltEnters.j0 k bt404.2.2.2.2.1 bt404.2.2.2.2.2 bt413.2.2.2.2 true bt404.1 bt404.2.1 bt404.2.2.1 bt404.2.2.2.1 bt413.1 bt413.2.1 bt413.2.2.1 bt413.2.2.2.1))) else (laws_FnBeltEnters.j0 k bt404.2.2.2.2.1 bt404.2.2.2.2.2 bt413.2.2.2.2 true bt404.1 bt404.2.1 bt404.2.2.1 bt404.2.2.2.1 bt413.1 bt413.2.1 bt413.2.2.1 bt413.2.2.2.1))) else (laws_FnBeltEnters.j0 k bt404.2.2.2.2.1 bt404.2.2.2.2.2 bt413.2.2.2.2 true bt404.1 bt404.2.1 bt404.2.2.1 bt404.2.2.2.1 bt413.1 bt413.2.1 bt413.2.2.1 bt413.2.2.2.1))))))))))
theorem laws_FnBeltEnters.mono_l : ∀ k, (∀ y0 y1 y2 y3 y4 y5 y6 y7 y8 y9 y10 y11, LeO (laws_FnBeltEnters.j0 k y0 y1 y2 y3 y4 y5 y6 y7 y8 y9 y10 y11) (laws_FnBeltEnters.j0 (k + 1) y0 y1 y2 y3 y4 y5 y6 y7 y8 y9 y10 y11))
 | 0 => fun _ _ _ _ _ _ _ _ _ _ _ _ r h => by simp [laws_FnBeltEnters.j0] at h
 | k + 1 => by
  have ih0 := laws_FnBeltEnters.mono_l k
  ·intro y0 y1 y2 y3 y4 y5 y6 y7 y8 y9 y10 y11
   unfold laws_FnBeltEnters.j0
   repeat' first
   | (with_reducible exact ih0 _ _ _ _ _ _ _ _ _ _ _ _)
   | (with_reducible exact impl_Backlog.mono _ _ _ _ _)
   | (with_reducible exact impl_BeltOk.mono _ _ _ _ _)
   | (with_reducible exact impl_CoverAt.mono _ _ _ _ _ _)
   | (with_reducible exact impl_Enter.mono _ _ _ _ _ _ _)
   | (with_reducible exact impl_FreeBehind.mono _ _ _ _ _)
   | (with_reducible exact impl_Leave.mono _ _ _ _ _)
   | (with_reducible exact laws_sameBelt.mono _ _ _ _ _ _ _ _ _)
   | (with_reducible exact spec_Backlog.mono _ _ _ _ _)
   | (with_reducible exact spec_DrawEnter.mono _ _)
   | (with_reducible exact spec_Enter.mono _ _ _ _ _ _ _)
   | (with_reducible exact spec_FreeBehind.mono _ _ _ _ _)
   | (with_reducible exact spec_Leave.mono _ _ _ _ _)
   | (with_reducible exact LeO.refl _)
   | (with_reducible exact LeO.none _)
   | (with_reducible refine LeO.ite ?_ ?_)
   | (with_reducible refine LeO.bind ?_ (fun _ => ?_))
   | exact ih0 _ _ _ _ _ _ _ _ _ _ _ _
   | exact impl_Backlog.mono _ _ _ _ _
   | exact impl_BeltOk.mono _ _ _ _ _
   | exact impl_CoverAt.mono _ _ _ _ _ _
   | exact impl_Enter.mono _ _ _ _ _ _ _
   | exact impl_FreeBehind.mono _ _ _ _ _
   | exact impl_Leave.mono _ _ _ _ _
   | exact laws_sameBelt.mono _ _ _ _ _ _ _ _ _
   | exact spec_Backlog.mono _ _ _ _ _
   | exact spec_DrawEnter.mono _ _
   | exact spec_Enter.mono _ _ _ _ _ _ _
   | exact spec_FreeBehind.mono _ _ _ _ _
   | exact spec_Leave.mono _ _ _ _ _
   | exact LeO.none _
   | refine LeO.ite ?_ ?_
   | refine LeO.bind ?_ (fun _ => ?_)
theorem laws_FnBeltEnters.mono : ∀ a0 k, LeO (laws_FnBeltEnters.f k a0) (laws_FnBeltEnters.f (k + 1) a0) := by
 intro a0 k
 have ih0 := laws_FnBeltEnters.mono_l k
 unfold laws_FnBeltEnters.f
 repeat' first
   | (with_reducible exact ih0 _ _ _ _ _ _ _ _ _ _ _ _)
   | (with_reducible exact impl_Backlog.mono _ _ _ _ _)
   | (with_reducible exact impl_BeltOk.mono _ _ _ _ _)
   | (with_reducible exact impl_CoverAt.mono _ _ _ _ _ _)
   | (with_reducible exact impl_Enter.mono _ _ _ _ _ _ _)
   | (with_reducible exact impl_FreeBehind.mono _ _ _ _ _)
   | (with_reducible exact impl_Leave.mono _ _ _ _ _)
   | (with_reducible exact laws_sameBelt.mono _ _ _ _ _ _ _ _ _)
   | (with_reducible exact spec_Backlog.mono _ _ _ _ _)
   | (with_reducible exact spec_DrawEnter.mono _ _)
   | (with_reducible exact spec_Enter.mono _ _ _ _ _ _ _)
   | (with_reducible exact spec_FreeBehind.mono _ _ _ _ _)
   | (with_reducible exact spec_Leave.mono _ _ _ _ _)
   | (with_reducible exact LeO.refl _)
   | (with_reducible exact LeO.none _)
   | (with_reducible refine LeO.ite ?_ ?_)
   | (with_reducible refine LeO.bind ?_ (fun _ => ?_))
   | exact ih0 _ _ _ _ _ _ _ _ _ _ _ _
   | exact impl_Backlog.mono _ _ _ _ _
   | exact impl_BeltOk.mono _ _ _ _ _
   | exact impl_CoverAt.mono _ _ _ _ _ _
   | exact impl_Enter.mono _ _ _ _ _ _ _
   | exact impl_FreeBehind.mono _ _ _ _ _
   | exact impl_Leave.mono _ _ _ _ _
   | exact laws_sameBelt.mono _ _ _ _ _ _ _ _ _
   | exact spec_Backlog.mono _ _ _ _ _
   | exact spec_DrawEnter.mono _ _
   | exact spec_Enter.mono _ _ _ _ _ _ _
   | exact spec_FreeBehind.mono _ _ _ _ _
   | exact spec_Leave.mono _ _ _ _ _
   | exact LeO.none _
   | refine LeO.ite ?_ ?_
   | refine LeO.bind ?_ (fun _ => ?_)
def laws_FnBeltEnters.T8 : Bool × List (List Nat × List Nat) := (true, [([], []), ([], []), ([0, 1], [0, 1]), ([2], [2]), ([3], [3]), ([3], [3]), ([4, 5, 3, 3], [3, 4, 5]), ([6, 3], [3, 6]), ([3, 7], [3, 7]), ([8, 6], [8]), ([9], [9]), ([9], [9]), ([10, 11, 9], [9, 10, 11]), ([9, 12], [9, 12]), ([13, 9], [13]), ([14], [14]), ([14], [14]), ([15, 16, 14], [14, 15, 16]), ([14, 17], [14, 17]), ([18, 14], [18]), ([19], [19]), ([19], [19]), ([20, 21, 19, 19], [19, 20, 21]), ([22, 19], [19, 22]), ([19, 23], [19, 23]), ([24, 22], [24]), ([25], [25]), ([26, 25, 25], [25, 26]), ([25], [25]), ([28, 27, 25], [25, 28]), ([27, 29, 25], [25, 27, 29]), ([25, 30], [25, 30]), ([31, 29], [31]), ([32], [32]), ([33, 32, 32], [32, 33]), ([32], [32]), ([35, 34, 32], [32, 35]), ([34, 36, 32], [32, 34, 36]), ([32, 37], [32, 37])])
def laws_FnBeltEnters.B8 : List Nat := [0, 0, 3, 7, 15, 15, 63, 127, 255, 511, 1023, 1023, 4095, 8191, 16383, 32767, 32767, 131071, 262143, 524287, 1048575, 1048575, 4194303, 8388607, 16777215, 33554431, 67108863, 134217727, 67108863, 536870911, 1073741823, 2147483647, 4294967295, 8589934591, 17179869183, 8589934591, 68719476735, 137438953471, 274877906943]
theorem laws_FnBeltEnters.tab8 : rtab .any (opsOf Try.f14 8) = laws_FnBeltEnters.T8 := by kernel_rfl
theorem laws_FnBeltEnters.bits8 : waitsOk laws_FnBeltEnters.T8.2 laws_FnBeltEnters.B8 = true := by kernel_rfl
def laws_FnBeltEnters.T12 : Bool × List (List Nat × List Nat) := (true, [([], []), ([0], [0]), ([1, 1], [1]), ([2], [2]), ([3, 2, 2], [2, 3]), ([2], [2]), ([4, 5, 2], [2, 4, 5]), ([2, 6], [2, 6]), ([7, 4], [7]), ([8], [8]), ([8], [8]), ([9, 10, 8, 8], [8, 9, 10]), ([8], [8]), ([11, 12, 8], [8, 11, 12]), ([8, 13], [8, 13]), ([14, 11], [14]), ([15], [15]), ([15], [15]), ([17, 15], [15, 17]), ([16, 18, 15, 15], [15, 16, 18]), ([15], [15]), ([15], [15]), ([21, 15], [15, 21]), ([20, 22, 19, 15], [15, 20, 22]), ([19, 23, 15], [15, 19, 23]), ([15, 24], [15, 24]), ([25, 23], [25]), ([26], [26]), ([27, 26, 26], [26, 27]), ([28, 26], [26, 28]), ([26, 29], [26, 29]), ([30, 28, 0, 1, 2, 3, 4, 5, 6, 7, 8, 9, 10, 11, 12, 13, 14, 15, 16, 17, 18, 19, 20, 21, 22, 23, 24, 25, 26, 27, 28, 29, 30], [30])])
def laws_FnBeltEnters.B12 : List Nat := [0, 1, 3, 7, 15, 7, 63, 127, 255, 511, 511, 2047, 511, 8191, 16383, 32767, 65535, 65535, 196607, 524287, 65535, 65535, 2162687, 8388607, 16777215, 33554431, 67108863, 134217727, 268435455, 536870911, 1073741823, 2147483647]
theorem laws_FnBeltEnters.tab12 : rtab .any (opsOf Try.f14 12) = laws_FnBeltEnters.T12 := by kernel_rfl
theorem laws_FnBeltEnters.bits12 : waitsOk laws_FnBeltEnters.T12.2 laws_FnBeltEnters.B12 = true := by kernel_rfl
set_option maxHeartbeats 8000000 in
set_option maxRecDepth 100000 in
theorem laws_FnBeltEnters.calls (k : Nat) (A0 : Option Addr) (c0 : Nat) (l0 : List Int) (w : World) (hr0 : Kd.C (Kd.int .u8) w A0 l0.length l0) (hc0 : l0.length ≤ c0) (h : laws_FnBeltEnters.f k l0 = some true) :
  Calls Try.prog 14 #[.slice A0 l0.length c0] w fun e w' => e = .returned (.bool true) ∧ Below w.heap.size w w' := by
 have hu29 := Try.underlying29
 have HR0 := uD hr0
 have HC0 := uD hc0
 clear hr0 hc0
 have HB := uD (Below.refl w.heap.size w)
 have H : ((laws_big.f l0).bind fun t403 => (if t403 = true then (some true) else ((spec_DrawEnter.f k l0).bind fun bt404 => ((impl_Enter.f k bt404.1 bt404.2.1 bt404.2.2.1 bt404.2.2.2.1 bt404.2.2.2.2.1 bt404.2.2.2.2.2).bind fun bt413 => ((spec_Enter.f k bt404.1 bt404.2.1 bt404.2.2.1 bt404.2.2.2.1 bt404.2.2.2.2.1 bt404.2.2.2.2.2).bind fun bt421 => ((impl_Leave.f k bt404.1 bt404.2.1 bt404.2.2.1 bt404.2.2.2.1).bind fun bt429 => ((spec_Leave.f k bt404.1 bt404.2.1 bt404.2.2.1 bt404.2.2.2.1).bind fun bt438 => (if (bt413.2.2.2.2 != bt421.2.2.2.2) = true then (laws_FnBeltEnters.j0 k bt404.2.2.2.2.1 bt404.2.2.2.2.2 bt413.2.2.2.2 true bt404.1 bt404.2.1 bt404.2.2.1 bt404.2.2.2.1 bt413.1 bt413.2.1 bt413.2.2.1 bt413.2.2.2.1) else ((laws_sameBelt.f k bt413.1 bt413.2.1 bt413.2.2.1 bt413.2.2.2.1 bt421.1 bt421.2.1 bt421.2.2.1 bt421.2.2.2.1).bind fun t447 => (if t447 = true then (if (bt429.2.2.2.2.2 != bt438.2.2.2.2.2) = true then (laws_FnBeltEnters.j0 k bt404.2.2.2.2.1 bt404.2.2.2.2.2 bt413.2.2.2.2 true bt404.1 bt404.2.1 bt404.2.2.1 bt404.2.2.2.1 bt413.1 bt413.2.1 bt413.2.2.1 bt413.2.2.2.1) else (if bt429.2.2.2.2.1 = bt438.2.2.2.2.1 then ((laws_sameBelt.f k bt429.1 bt429.2.1 bt429.2.2.1 bt429.2.2.2.1 bt438.1 bt438.2.1 bt438.2.2.1 bt438.2.2.2.1).bind fun t448 => (if t448 = true then ((impl_Backlog.f k bt404.1 bt404.2.1 bt404.2.2.1 bt404.2.2.2.1).bind fun t449 => ((spec_Backlog.f k bt404.1 bt404.2.1 bt404.2.2.1 bt404.2.2.2.1).bind fun t450 => (if t449 = t450 then ((impl_FreeBehind.f k bt404.1 bt404.2.1 bt404.2.2.1 bt404.2.2.2.1).bind fun t451 => ((spec_FreeBehind.f k bt404.1 bt404.2.1 bt404.2.2.1 bt404.2.2.2.1).bind fun t452 => (laws_FnBeltEnters.j0 k bt404.2.2.2.2.1 bt404.2.2.2.2.2 bt413.2.2.2.2 (t451 != t452) bt404.1 bt404.2.1 bt404.2.2.1 bt404.2.2.2.1 bt413.1 bt413.2.1 bt413.2.2.1 bt413.2.2.2.1))) else (laws_FnBeltEnters.j0 k bt404.2.2.2.2.1 bt404.2.2.2.2.2 bt413.2.2.2.2 true bt404.1 bt404.2.1 bt404.2.2.1 bt404.2.2.2.1 bt413.1 bt413.2.1 bt413.2.2.1 bt413.2.2.2.1)))) else (laws_FnBeltEnters.j0 k bt404.2.2.2.2.1 bt404.2.2.2.2.2 bt413.2.2.2.2 true bt404.1 bt404.2.1 bt404.2.2.1 bt404.2.2.2.1 bt413.1 bt413.2.1 bt413.2.2.1 bt413.2.2.2.1))) else (laws_FnBeltEnters.j0 k bt404.2.2.2.2.1 bt404.2.2.2.2.2 bt413.2.2.2.2 true bt404.1 bt404.2.1 bt404.2.2.1 bt404.2.2.2.1 bt413.1 bt413.2.1 bt413.2.2.1 bt413.2.2.2.1))) else (laws_FnBeltEnters.j0 k bt404.2.2.2.2.1 bt404.2.2.2.2.2 bt413.2.2.2.2 true bt404.1 bt404.2.1 bt404.2.2.1 bt404.2.2.2.1 bt413.1 bt413.2.1 bt413.2.2.1 bt413.2.2.2.1))))))))))) = some true := h
 clear h
 replace H := Option.bind_eq_some_iff.mp H
 obtain ⟨t403, A20, H⟩ := H
 replace H : (if t403 = true then (some true) else ((spec_DrawEnter.f k l0).bind fun bt404 => ((impl_Enter.f k bt404.1 bt404.2.1 bt404.2.2.1 bt404.2.2.2.1 bt404.2.2.2.2.1 bt404.2.2.2.2.2).bind fun bt413 => ((spec_Enter.f k bt404.1 bt404.2.1 bt404.2.2.1 bt404.2.2.2.1 bt404.2.2.2.2.1 bt404.2.2.2.2.2).bind fun bt421 => ((impl_Leave.f k bt404.1 bt404.2.1 bt404.2.2.1 bt404.2.2.2.1).bind fun bt429 => ((spec_Leave.f k bt404.1 bt404.2.1 bt404.2.2.1 bt404.2.2.2.1).bind fun bt438 => (if (bt413.2.2.2.2 != bt421.2.2.2.2) = true then (laws_FnBeltEnters.j0 k bt404.2.2.2.2.1 bt404.2.2.2.2.2 bt413.2.2.2.2 true bt404.1 bt404.2.1 bt404.2.2.1 bt404.2.2.2.1 bt413.1 bt413.2.1 bt413.2.2.1 bt413.2.2.2.1) else ((laws_sameBelt.f k bt413.1 bt413.2.1 bt413.2.2.1 bt413.2.2.2.1 bt421.1 bt421.2.1 bt421.2.2.1 bt421.2.2.2.1).bind fun t447 => (if t447 = true then (if (bt429.2.2.2.2.2 != bt438.2.2.2.2.2) = true then (laws_FnBeltEnters.j0 k bt404.2.2.2.2.1 bt404.2.2.2.2.2 bt413.2.2.2.2 true bt404.1 bt404.2.1 bt404.2.2.1 bt404.2.2.2.1 bt413.1 bt413.2.1 bt413.2.2.1 bt413.2.2.2.1) else (if bt429.2.2.2.2.1 = bt438.2.2.2.2.1 then ((laws_sameBelt.f k bt429.1 bt429.2.1 bt429.2.2.1 bt429.2.2.2.1 bt438.1 bt438.2.1 bt438.2.2.1 bt438.2.2.2.1).bind fun t448 => (if t448 = true then ((impl_Backlog.f k bt404.1 bt404.2.1 bt404.2.2.1 bt404.2.2.2.1).bind fun t449 => ((spec_Backlog.f k bt404.1 bt404.2.1 bt404.2.2.1 bt404.2.2.2.1).bind fun t450 => (if t449 = t450 then ((impl_FreeBehind.f k bt404.1 bt404.2.1 bt404.2.2.1 bt404.2.2.2.1).bind fun t451 => ((spec_FreeBehind.f k bt404.1 bt404.2.1 bt404.2.2.1 bt404.2.2.2.1).bind fun t452 => (laws_FnBeltEnters.j0 k bt404.2.2.2.2.1 bt404.2.2.2.2.2 bt413.2.2.2.2 (t451 != t452) bt404.1 bt404.2.1 bt404.2.2.1 bt404.2.2.2.1 bt413.1 bt413.2.1 bt413.2.2.1 bt413.2.2.2.1))) else (laws_FnBeltEnters.j0 k bt404.2.2.2.2.1 bt404.2.2.2.2.2 bt413.2.2.2.2 true bt404.1 bt404.2.1 bt404.2.2.1 bt404.2.2.2.1 bt413.1 bt413.2.1 bt413.2.2.1 bt413.2.2.2.1)))) else (laws_FnBeltEnters.j0 k bt404.2.2.2.2.1 bt404.2.2.2.2.2 bt413.2.2.2.2 true bt404.1 bt404.2.1 bt404.2.2.1 bt404.2.2.2.1 bt413.1 bt413.2.1 bt413.2.2.1 bt413.2.2.2.1))) else (laws_FnBeltEnters.j0 k bt404.2.2.2.2.1 bt404.2.2.2.2.2 bt413.2.2.2.2 true bt404.1 bt404.2.1 bt404.2.2.1 bt404.2.2.2.1 bt413.1 bt413.2.1 bt413.2.2.1 bt413.2.2.2.1))) else (laws_FnBeltEnters.j0 k bt404.2.2.2.2.1 bt404.2.2.2.2.2 bt413.2.2.2.2 true bt404.1 bt404.2.1 bt404.2.2.1 bt404.2.2.2.1 bt413.1 bt413.2.1 bt413.2.2.1 bt413.2.2.2.1)))))))))) = some true := H
 have A2 := uD A20
 clear A20
 by_cases c3 : t403 = true
 ·subst c3
  have H1 : (some true) = some true := by rw [if_pos rfl] at H; first | done | exact H
  clear H
  have H := H1
  clear H1
  have HT := Option.some.inj H
  clear H
  go_enter Try.func14, Try.ntmps14
  go_wp2_with (first | ((with_reducible refine gate_callee (f := 45) rfl ?_); refine gl (some 17) Try.func45 #[.slice A0 l0.length c0] ?_; (with_reducible refine (laws_big.calls _ _ l0 true _ ?side1 ?side2 A2.out).mono ?_); (case side1 => exact pc HR0.out); (case side2 => exact HC0.out); rintro e w' ⟨rfl, ⟨nd, rfl⟩⟩; refine ⟨_, rfl, ?_⟩))
  go_ret
  exact ⟨by first | rfl | (simp [errW_none, errW_some] <;> rfl) | (simp [*, errW_none, errW_some] <;> rfl), pb HB⟩
 ·replace c3 := Bool.eq_false_iff.mpr c3
  subst c3
  have H1 : ((spec_DrawEnter.f k l0).bind fun bt404 => ((impl_Enter.f k bt404.1 bt404.2.1 bt404.2.2.1 bt404.2.2.2.1 bt404.2.2.2.2.1 bt404.2.2.2.2.2).bind fun bt413 => ((spec_Enter.f k bt404.1 bt404.2.1 bt404.2.2.1 bt404.2.2.2.1 bt404.2.2.2.2.1 bt404.2.2.2.2.2).bind fun bt421 => ((impl_Leave.f k bt404.1 bt404.2.1 bt404.2.2.1 bt404.2.2.2.1).bind fun bt429 => ((spec_Leave.f k bt404.1 bt404.2.1 bt404.2.2.1 bt404.2.2.2.1).bind fun bt438 => (if (bt413.2.2.2.2 != bt421.2.2.2.2) = true then (laws_FnBeltEnters.j0 k bt404.2.2.2.2.1 bt404.2.2.2.2.2 bt413.2.2.2.2 true bt404.1 bt404.2.1 bt404.2.2.1 bt404.2.2.2.1 bt413.1 bt413.2.1 bt413.2.2.1 bt413.2.2.2.1) else ((laws_sameBelt.f k bt413.1 bt413.2.1 bt413.2.2.1 bt413.2.2.2.1 bt421.1 bt421.2.1 bt421.2.2.1 bt421.2.2.2.1).bind fun t447 => (if t447 = true then (if (bt429.2.2.2.2.2 != bt438.2.2.2.2.2) = true then (laws_FnBeltEnters.j0 k bt404.2.2.2.2.1 bt404.2.2.2.2.2 bt413.2.2.2.2 true bt404.1 bt404.2.1 bt404.2.2.1 bt404.2.2.2.1 bt413.1 bt413.2.1 bt413.2.2.1 bt413.2.2.2.1) else (if bt429.2.2.2.2.1 = bt438.2.2.2.2.1 then ((laws_sameBelt.f k bt429.1 bt429.2.1 bt429.2.2.1 bt429.2.2.2.1 bt438.1 bt438.2.1 bt438.2.2.1 bt438.2.2.2.1).bind fun t448 => (if t448 = true then ((impl_Backlog.f k bt404.1 bt404.2.1 bt404.2.2.1 bt404.2.2.2.1).bind fun t449 => ((spec_Backlog.f k bt404.1 bt404.2.1 bt404.2.2.1 bt404.2.2.2.1).bind fun t450 => (if t449 = t450 then ((impl_FreeBehind.f k bt404.1 bt404.2.1 bt404.2.2.1 bt404.2.2.2.1).bind fun t451 => ((spec_FreeBehind.f k bt404.1 bt404.2.1 bt404.2.2.1 bt404.2.2.2.1).bind fun t452 => (laws_FnBeltEnters.j0 k bt404.2.2.2.2.1 bt404.2.2.2.2.2 bt413.2.2.2.2 (t451 != t452) bt404.1 bt404.2.1 bt404.2.2.1 bt404.2.2.2.1 bt413.1 bt413.2.1 bt413.2.2.1 bt413.2.2.2.1))) else (laws_FnBeltEnters.j0 k bt404.2.2.2.2.1 bt404.2.2.2.2.2 bt413.2.2.2.2 true bt404.1 bt404.2.1 bt404.2.2.1 bt404.2.2.2.1 bt413.1 bt413.2.1 bt413.2.2.1 bt413.2.2.2.1)))) else (laws_FnBeltEnters.j0 k bt404.2.2.2.2.1 bt404.2.2.2.2.2 bt413.2.2.2.2 true bt404.1 bt404.2.1 bt404.2.2.1 bt404.2.2.2.1 bt413.1 bt413.2.1 bt413.2.2.1 bt413.2.2.2.1))) else (laws_FnBeltEnters.j0 k bt404.2.2.2.2.1 bt404.2.2.2.2.2 bt413.2.2.2.2 true bt404.1 bt404.2.1 bt404.2.2.1 bt404.2.2.2.1 bt413.1 bt413.2.1 bt413.2.2.1 bt413.2.2.2.1))) else (laws_FnBeltEnters.j0 k bt404.2.2.2.2.1 bt404.2.2.2.2.2 bt413.2.2.2.2 true bt404.1 bt404.2.1 bt404.2.2.1 bt404.2.2.2.1 bt413.1 bt413.2.1 bt413.2.2.1 bt413.2.2.2.1))))))))) = some true := by rw [if_neg (show ¬ (false = true) by decide)] at H; first | done | exact H
  clear H
  have H := H1
  clear H1
  replace H := Option.bind_eq_some_iff.mp H
  obtain ⟨⟨t404, t405, t406, t407, t410, t411⟩, A40, H⟩ := H
  replace H : ((impl_Enter.f k t404 t405 t406 t407 t410 t411).bind fun bt413 => ((spec_Enter.f k t404 t405 t406 t407 t410 t411).bind fun bt421 => ((impl_Leave.f k t404 t405 t406 t407).bind fun bt429 => ((spec_Leave.f k t404 t405 t406 t407).bind fun bt438 => (if (bt413.2.2.2.2 != bt421.2.2.2.2) = true then (laws_FnBeltEnters.j0 k t410 t411 bt413.2.2.2.2 true t404 t405 t406 t407 bt413.1 bt413.2.1 bt413.2.2.1 bt413.2.2.2.1) else ((laws_sameBelt.f k bt413.1 bt413.2.1 bt413.2.2.1 bt413.2.2.2.1 bt421.1 bt421.2.1 bt421.2.2.1 bt421.2.2.2.1).bind fun t447 => (if t447 = true then (if (bt429.2.2.2.2.2 != bt438.2.2.2.2.2) = true then (laws_FnBeltEnters.j0 k t410 t411 bt413.2.2.2.2 true t404 t405 t406 t407 bt413.1 bt413.2.1 bt413.2.2.1 bt413.2.2.2.1) else (if bt429.2.2.2.2.1 = bt438.2.2.2.2.1 then ((laws_sameBelt.f k bt429.1 bt429.2.1 bt429.2.2.1 bt429.2.2.2.1 bt438.1 bt438.2.1 bt438.2.2.1 bt438.2.2.2.1).bind fun t448 => (if t448 = true then ((impl_Backlog.f k t404 t405 t406 t407).bind fun t449 => ((spec_Backlog.f k t404 t405 t406 t407).bind fun t450 => (if t449 = t450 then ((impl_FreeBehind.f k t404 t405 t406 t407).bind fun t451 => ((spec_FreeBehind.f k t404 t405 t406 t407).bind fun t452 => (laws_FnBeltEnters.j0 k t410 t411 bt413.2.2.2.2 (t451 != t452) t404 t405 t406 t407 bt413.1 bt413.2.1 bt413.2.2.1 bt413.2.2.2.1))) else (laws_FnBeltEnters.j0 k t410 t411 bt413.2.2.2.2 true t404 t405 t406 t407 bt413.1 bt413.2.1 bt413.2.2.1 bt413.2.2.2.1)))) else (laws_FnBeltEnters.j0 k t410 t411 bt413.2.2.2.2 true t404 t405 t406 t407 bt413.1 bt413.2.1 bt413.2.2.1 bt413.2.2.2.1))) else (laws_FnBeltEnters.j0 k t410 t411 bt413.2.2.2.2 true t404 t405 t406 t407 bt413.1 bt413.2.1 bt413.2.2.1 bt413.2.2.2.1))) else (laws_FnBeltEnters.j0 k t410 t411 bt413.2.2.2.2 true t404 t405 t406 t407 bt413.1 bt413.2.1 bt413.2.2.1 bt413.2.2.2.1)))))))) = some true := H
  have A4 := uD A40
  clear A40
  replace H := Option.bind_eq_some_iff.mp H
  obtain ⟨⟨t413, t414, t415, t416, t419⟩, A50, H⟩ := H
  replace H : ((spec_Enter.f k t404 t405 t406 t407 t410 t411).bind fun bt421 => ((impl_Leave.f k t404 t405 t406 t407).bind fun bt429 => ((spec_Leave.f k t404 t405 t406 t407).bind fun bt438 => (if (t419 != bt421.2.2.2.2) = true then (laws_FnBeltEnters.j0 k t410 t411 t419 true t404 t405 t406 t407 t413 t414 t415 t416) else ((laws_sameBelt.f k t413 t414 t415 t416 bt421.1 bt421.2.1 bt421.2.2.1 bt421.2.2.2.1).bind fun t447 => (if t447 = true then (if (bt429.2.2.2.2.2 != bt438.2.2.2.2.2) = true then (laws_FnBeltEnters.j0 k t410 t411 t419 true t404 t405 t406 t407 t413 t414 t415 t416) else (if bt429.2.2.2.2.1 = bt438.2.2.2.2.1 then ((laws_sameBelt.f k bt429.1 bt429.2.1 bt429.2.2.1 bt429.2.2.2.1 bt438.1 bt438.2.1 bt438.2.2.1 bt438.2.2.2.1).bind fun t448 => (if t448 = true then ((impl_Backlog.f k t404 t405 t406 t407).bind fun t449 => ((spec_Backlog.f k t404 t405 t406 t407).bind fun t450 => (if t449 = t450 then ((impl_FreeBehind.f k t404 t405 t406 t407).bind fun t451 => ((spec_FreeBehind.f k t404 t405 t406 t407).bind fun t452 => (laws_FnBeltEnters.j0 k t410 t411 t419 (t451 != t452) t404 t405 t406 t407 t413 t414 t415 t416))) else (laws_FnBeltEnters.j0 k t410 t411 t419 true t404 t405 t406 t407 t413 t414 t415 t416)))) else (laws_FnBeltEnters.j0 k t410 t411 t419 true t404 t405 t406 t407 t413 t414 t415 t416))) else (laws_FnBeltEnters.j0 k t410 t411 t419 true t404 t405 t406 t407 t413 t414 t415 t416))) else (laws_FnBeltEnters.j0 k t410 t411 t419 true t404 t405 t406 t407 t413 t414 t415 t416))))))) = some true := H
  have A5 := uD A50
  clear A50
  replace H := Option.bind_eq_some_iff.mp H
  obtain ⟨⟨t421, t422, t423, t424, t427⟩, A60, H⟩ := H
  replace H : ((impl_Leave.f k t404 t405 t406 t407).bind fun bt429 => ((spec_Leave.f k t404 t405 t406 t407).bind fun bt438 => (if (t419 != t427) = true then (laws_FnBeltEnters.j0 k t410 t411 t419 true t404 t405 t406 t407 t413 t414 t415 t416) else ((laws_sameBelt.f k t413 t414 t415 t416 t421 t422 t423 t424).bind fun t447 => (if t447 = true then (if (bt429.2.2.2.2.2 != bt438.2.2.2.2.2) = true then (laws_FnBeltEnters.j0 k t410 t411 t419 true t404 t405 t406 t407 t413 t414 t415 t416) else (if bt429.2.2.2.2.1 = bt438.2.2.2.2.1 then ((laws_sameBelt.f k bt429.1 bt429.2.1 bt429.2.2.1 bt429.2.2.2.1 bt438.1 bt438.2.1 bt438.2.2.1 bt438.2.2.2.1).bind fun t448 => (if t448 = true then ((impl_Backlog.f k t404 t405 t406 t407).bind fun t449 => ((spec_Backlog.f k t404 t405 t406 t407).bind fun t450 => (if t449 = t450 then ((impl_FreeBehind.f k t404 t405 t406 t407).bind fun t451 => ((spec_FreeBehind.f k t404 t405 t406 t407).bind fun t452 => (laws_FnBeltEnters.j0 k t410 t411 t419 (t451 != t452) t404 t405 t406 t407 t413 t414 t415 t416))) else (laws_FnBeltEnters.j0 k t410 t411 t419 true t404 t405 t406 t407 t413 t414 t415 t416)))) else (laws_FnBeltEnters.j0 k t410 t411 t419 true t404 t405 t406 t407 t413 t414 t415 t416))) else (laws_FnBeltEnters.j0 k t410 t411 t419 true t404 t405 t406 t407 t413 t414 t415 t416))) else (laws_FnBeltEnters.j0 k t410 t411 t419 true t404 t405 t406 t407 t413 t414 t415 t416)))))) = some true := H
  have A6 := uD A60
  clear A60
  replace H := Option.bind_eq_some_iff.mp H
  obtain ⟨⟨t429, t430, t431, t432, t435, t436⟩, A70, H⟩ := H
  replace H : ((spec_Leave.f k t404 t405 t406 t407).bind fun bt438 => (if (t419 != t427) = true then (laws_FnBeltEnters.j0 k t410 t411 t419 true t404 t405 t406 t407 t413 t414 t415 t416) else ((laws_sameBelt.f k t413 t414 t415 t416 t421 t422 t423 t424).bind fun t447 => (if t447 = true then (if (t436 != bt438.2.2.2.2.2) = true then (laws_FnBeltEnters.j0 k t410 t411 t419 true t404 t405 t406 t407 t413 t414 t415 t416) else (if t435 = bt438.2.2.2.2.1 then ((laws_sameBelt.f k t429 t430 t431 t432 bt438.1 bt438.2.1 bt438.2.2.1 bt438.2.2.2.1).bind fun t448 => (if t448 = true then ((impl_Backlog.f k t404 t405 t406 t407).bind fun t449 => ((spec_Backlog.f k t404 t405 t406 t407).bind fun t450 => (if t449 = t450 then ((impl_FreeBehind.f k t404 t405 t406 t407).bind fun t451 => ((spec_FreeBehind.f k t404 t405 t406 t407).bind fun t452 => (laws_FnBeltEnters.j0 k t410 t411 t419 (t451 != t452) t404 t405 t406 t407 t413 t414 t415 t416))) else (laws_FnBeltEnters.j0 k t410 t411 t419 true t404 t405 t406 t407 t413 t414 t415 t416)))) else (laws_FnBeltEnters.j0 k t410 t411 t419 true t404 t405 t406 t407 t413 t414 t415 t416))) else (laws_FnBeltEnters.j0 k t410 t411 t419 true t404 t405 t406 t407 t413 t414 t415 t416))) else (laws_FnBeltEnters.j0 k t410 t411 t419 true t404 t405 t406 t407 t413 t414 t415 t416))))) = some true := H
  have A7 := uD A70
  clear A70
  replace H := Option.bind_eq_some_iff.mp H
  obtain ⟨⟨t438, t439, t440, t441, t444, t445⟩, A80, H⟩ := H
  replace H : (if (t419 != t427) = true then (laws_FnBeltEnters.j0 k t410 t411 t419 true t404 t405 t406 t407 t413 t414 t415 t416) else ((laws_sameBelt.f k t413 t414 t415 t416 t421 t422 t423 t424).bind fun t447 => (if t447 = true then (if (t436 != t445) = true then (laws_FnBeltEnters.j0 k t410 t411 t419 true t404 t405 t406 t407 t413 t414 t415 t416) else (if t435 = t444 then ((laws_sameBelt.f k t429 t430 t431 t432 t438 t439 t440 t441).bind fun t448 => (if t448 = true then ((impl_Backlog.f k t404 t405 t406 t407).bind fun t449 => ((spec_Backlog.f k t404 t405 t406 t407).bind fun t450 => (if t449 = t450 then ((impl_FreeBehind.f k t404 t405 t406 t407).bind fun t451 => ((spec_FreeBehind.f k t404 t405 t406 t407).bind fun t452 => (laws_FnBeltEnters.j0 k t410 t411 t419 (t451 != t452) t404 t405 t406 t407 t413 t414 t415 t416))) else (laws_FnBeltEnters.j0 k t410 t411 t419 true t404 t405 t406 t407 t413 t414 t415 t416)))) else (laws_FnBeltEnters.j0 k t410 t411 t419 true t404 t405 t406 t407 t413 t414 t415 t416))) else (laws_FnBeltEnters.j0 k t410 t411 t419 true t404 t405 t406 t407 t413 t414 t415 t416))) else (laws_FnBeltEnters.j0 k t410 t411 t419 true t404 t405 t406 t407 t413 t414 t415 t416)))) = some true := H
  have A8 := uD A80
  clear A80
  have HC9 := uD H
  clear H
  go_enter Try.func14, Try.ntmps14
  go_upto_region 8 with (first | ((with_reducible refine gate_callee (f := 45) rfl ?_); refine gl (some 17) Try.func45 #[.slice A0 l0.length c0] ?_; (with_reducible refine (laws_big.calls _ _ l0 false _ ?side1 ?side2 A2.out).mono ?_); (case side1 => exact pc HR0.out); (case side2 => exact HC0.out); rintro e w' ⟨rfl, ⟨nd, rfl⟩⟩; refine ⟨_, rfl, ?_⟩) | ((with_reducible refine gate_callee (f := 46) rfl ?_); refine gl (some 20) Try.func46 #[.slice A0 l0.length c0] ?_; (with_reducible refine (spec_DrawEnter.calls k _ _ l0 t404 t405 t406 t407 t410 t411 _ ?side1 ?side2 A4.out).mono ?_); (case side1 => exact pc HR0.out); (case side2 => exact HC0.out); rintro e w10 ⟨v408, rfl, ho0, hb⟩; refine ⟨_, rfl, ?_⟩; have HO409 := uD (Kd.R_lower ho0 (uN (pb HB))); replace HB := uD (uO (pb HB) hb); (try clear hb); (try clear hb2); (try clear hk); (try clear hi); (try clear ho0)) | ((with_reducible refine gate_dst (N := 3) rfl ?_); refine bx 3 #[.int .i64 0, .int .i64 0, .bool false, .slice none 0 0] 29 ?_; intro gb412 hg w11 hbox hb; replace HO409 := uD (Kd.R_below (pr HO409) hb); have BK412 := uD (hbox); have GW412 := uD ((by rw [hg]; exact (uN (pb HB)) : w.heap.size ≤ gb412)); have GE412 := uD ((by rw [hg]; exact (uN (pb HB)) : w.heap.size ≤ gb412)); replace HB := uD (uO (pb HB) hb); clear hb hbox hg; obtain ⟨hcz12_0, hcz12_1, hcz12_2, hcz12_3, hfz12_0, hfz12_1, hfz12_2, hfz12_3⟩ := cz4 BK412; obtain ⟨Ao13, co13, eo13⟩ := Kd.R_slice HO409.out; subst eo13) | ((with_reducible refine gate_callee (f := 31) rfl ?_); refine gl (some 28) Try.func31 #[.agg #[.int .i64 t404, .int .i64 t405, .bool t406, .slice Ao13 t407.length co13], .int .i64 t410, .int .i64 t411] ?_; (with_reducible refine (impl_Enter.calls k t404 t405 t406 _ _ t407 t410 t411 t413 t414 t415 t416 t419 _ ?side1 ?side2 A5.out).mono ?_); (case side1 => refine (Kd.R_reads' (e := 53) (base := w.heap.size) (ok := fun k_ => True) (n := t407.length) (c := co13) ?_).2.2; exact (by (with_reducible repeat (first | apply uU | apply uS | apply uT)); exact (uX (uV (p := ⟨gb412, 3, none⟩) (uV (p := ⟨gb412, 2, none⟩) (uV (p := ⟨gb412, 1, none⟩) (uV (p := ⟨gb412, 0, none⟩) (uW HO409.out BK412.out (by decide)) (fun _ hk => hk.2) (.int .i64 t404)) (fun _ hk => hk.2) (.int .i64 t405)) (fun _ hk => hk.2) (.bool t406)) (fun _ hk => hk.2) (.slice Ao13 t407.length co13)) (fun _ h_ => h_.1)))); (case side2 => exact (Kd.R_reads' HO409.out).2.1); rintro e w14 ⟨v417, rfl, ho0, hb⟩; refine ⟨_, rfl, ?_⟩; have HO418 := uD (Kd.R_lower (Kd.R_new' ho0 (Kd.R_lt (by (with_reducible repeat (first | apply uU | apply uS | apply uT)); exact (uX (uV (p := ⟨gb412, 3, none⟩) (uV (p := ⟨gb412, 2, none⟩) (uV (p := ⟨gb412, 1, none⟩) (uV (p := ⟨gb412, 0, none⟩) (uW HO409.out BK412.out (by decide)) (fun _ hk => hk.2) (.int .i64 t404)) (fun _ hk => hk.2) (.int .i64 t405)) (fun _ hk => hk.2) (.bool t406)) (fun _ hk => hk.2) (.slice Ao13 t407.length co13)) (fun _ h_ => h_.1))))) (uN (pb HB))); replace HO409 := uD (Kd.R_elder' (by (with_reducible repeat (first | apply uU | apply uS | apply uT)); exact (uX (uV (p := ⟨gb412, 3, none⟩) (uV (p := ⟨gb412, 2, none⟩) (uV (p := ⟨gb412, 1, none⟩) (uV (p := ⟨gb412, 0, none⟩) (uW HO409.out BK412.out (by decide)) (fun _ hk => hk.2) (.int .i64 t404)) (fun _ hk => hk.2) (.int .i64 t405)) (fun _ hk => hk.2) (.bool t406)) (fun _ hk => hk.2) (.slice Ao13 t407.length co13)) (fun _ h_ => h_.1))) (Kd.R_base ho0) hb); replace BK412 := uD (blk_below (g := gb412) (o := .cells #[.int .i64 t404, .int .i64 t405, .bool t406, .slice Ao13 t407.length co13] 29 (0, 0)) (by (with_reducible repeat first|apply uH|apply uJ|apply uG); refine uP (cs := #[.int .i64 t404, .int .i64 t405, .bool t406, .slice none 0 0]) ?_ 3 _ rfl; (with_reducible repeat first|apply uH|apply uJ|apply uG); refine uP (cs := #[.int .i64 t404, .int .i64 t405, .bool false, .slice none 0 0]) ?_ 2 _ rfl; (with_reducible repeat first|apply uH|apply uJ|apply uG); refine uP (cs := #[.int .i64 t404, .int .i64 0, .bool false, .slice none 0 0]) ?_ 1 _ rfl; (with_reducible repeat first|apply uH|apply uJ|apply uG); refine uP (cs := #[.int .i64 0, .int .i64 0, .bool false, .slice none 0 0]) ?_ 0 _ rfl; (with_reducible repeat first|apply uH|apply uJ|apply uG); exact BK412.out) hb); replace HB := uD (uO (pb HB) hb); (try clear hb); (try clear hb2); (try clear hk); (try clear hi); (try clear ho0)) | ((with_reducible refine gate_dst (N := 6) rfl ?_); refine bx 6 #[.int .i64 0, .int .i64 0, .bool false, .slice none 0 0] 29 ?_; intro gb420 hg w15 hbox hb; replace HO409 := uD (Kd.R_below (pr HO409) hb); replace HO418 := uD (Kd.R_below (pr HO418) hb); have BK420 := uD (hbox); have GW420 := uD ((by rw [hg]; exact (uN (pb HB)) : w.heap.size ≤ gb420)); have GE420 := uD ((by rw [hg]; exact (uN (pb HB)) : w.heap.size ≤ gb420)); replace HB := uD (uO (pb HB) hb); have NB412_420 := uD ((by rw [hg]; exact Nat.ne_of_lt (blk_lt (pk BK412)) : gb412 ≠ gb420)); have NB420_412 := uD ((by rw [hg]; exact Nat.ne_of_gt (blk_lt (pk BK412)) : gb420 ≠ gb412)); replace BK412 := uD (blk_below (pk BK412) hb); clear hb hbox hg; have hnb16 := NB420_412.out; have hnc16 := NB412_420.out; obtain ⟨hcz17_0, hcz17_1, hcz17_2, hcz17_3, hfz17_0, hfz17_1, hfz17_2, hfz17_3⟩ := cz4 BK420; obtain ⟨Ao18, co18, eo18⟩ := Kd.R_slice HO418.out; subst eo18; obtain ⟨hcz19_0, hcz19_1, hcz19_2, hcz19_3, hfz19_0, hfz19_1, hfz19_2, hfz19_3⟩ := cz4 BK412) | ((with_reducible refine gate_callee (f := 30) rfl ?_); refine gl (some 35) Try.func30 #[.agg #[.int .i64 t404, .int .i64 t405, .bool t406, .slice Ao13 t407.length co13], .int .i64 t410, .int .i64 t411] ?_; (with_reducible refine (spec_Enter.calls k t404 t405 t406 _ _ t407 t410 t411 t421 t422 t423 t424 t427 _ ?side1 ?side2 A6.out).mono ?_); (case side1 => refine (Kd.R_reads' (e := 53) (base := w.heap.size) (ok := fun k_ => (True ∧ some k_ ≠ (.slice Ao18 t416.length co18 : Value).ownBlock)) (n := t407.length) (c := co13) ?_).2.2; exact (by (with_reducible repeat (first | apply uU | apply uS | apply uT)); exact (uX (uV (p := ⟨gb420, 3, none⟩) (uV (p := ⟨gb420, 2, none⟩) (uV (p := ⟨gb420, 1, none⟩) (uV (p := ⟨gb420, 0, none⟩) (uW HO409.out BK420.out (by decide)) (fun _ hk => hk.2) (.int .i64 t413)) (fun _ hk => hk.2) (.int .i64 t414)) (fun _ hk => hk.2) (.bool t415)) (fun _ hk => hk.2) (.slice Ao18 t416.length co18)) (fun _ h_ => h_.1)))); (case side2 => exact (Kd.R_reads' HO409.out).2.1); rintro e w20 ⟨v425, rfl, ho0, hb⟩; refine ⟨_, rfl, ?_⟩; have HO426 := uD (Kd.R_lower (Kd.R_new' (Kd.R_new' ho0 (Kd.R_lt (by (with_reducible repeat (first | apply uU | apply uS | apply uT)); exact (uX (uV (p := ⟨gb420, 3, none⟩) (uV (p := ⟨gb420, 2, none⟩) (uV (p := ⟨gb420, 1, none⟩) (uV (p := ⟨gb420, 0, none⟩) (uW HO409.out BK420.out (by decide)) (fun _ hk => hk.2) (.int .i64 t413)) (fun _ hk => hk.2) (.int .i64 t414)) (fun _ hk => hk.2) (.bool t415)) (fun _ hk => hk.2) (.slice Ao18 t416.length co18)) (fun _ h_ => h_.1))))) (Kd.R_lt (by (with_reducible repeat (first | apply uU | apply uS | apply uT)); exact (uX (uV (p := ⟨gb420, 3, none⟩) (uV (p := ⟨gb420, 2, none⟩) (uV (p := ⟨gb420, 1, none⟩) (uV (p := ⟨gb420, 0, none⟩) (uW HO418.out BK420.out (by decide)) (fun _ hk => hk.2) (.int .i64 t413)) (fun _ hk => hk.2) (.int .i64 t414)) (fun _ hk => hk.2) (.bool t415)) (fun _ hk => hk.2) (.slice Ao18 t416.length co18)) (fun _ h_ => h_.1))))) (uN (pb HB))); replace HO409 := uD (Kd.R_elder' (by (with_reducible repeat (first | apply uU | apply uS | apply uT)); exact (uX (uV (p := ⟨gb420, 3, none⟩) (uV (p := ⟨gb420, 2, none⟩) (uV (p := ⟨gb420, 1, none⟩) (uV (p := ⟨gb420, 0, none⟩) (uW HO409.out BK420.out (by decide)) (fun _ hk => hk.2) (.int .i64 t413)) (fun _ hk => hk.2) (.int .i64 t414)) (fun _ hk => hk.2) (.bool t415)) (fun _ hk => hk.2) (.slice Ao18 t416.length co18)) (fun _ h_ => h_.1))) (Kd.R_base ho0) hb); replace HO418 := uD (Kd.R_elder' (by (with_reducible repeat (first | apply uU | apply uS | apply uT)); exact (uX (uV (p := ⟨gb420, 3, none⟩) (uV (p := ⟨gb420, 2, none⟩) (uV (p := ⟨gb420, 1, none⟩) (uV (p := ⟨gb420, 0, none⟩) (uW HO418.out BK420.out (by decide)) (fun _ hk => hk.2) (.int .i64 t413)) (fun _ hk => hk.2) (.int .i64 t414)) (fun _ hk => hk.2) (.bool t415)) (fun _ hk => hk.2) (.slice Ao18 t416.length co18)) (fun _ h_ => h_.1))) (Kd.R_base ho0) hb); replace BK412 := uD (blk_below (g := gb412) (o := .cells #[.int .i64 t404, .int .i64 t405, .bool t406, .slice Ao13 t407.length co13] 29 (0, 0)) (by exact ps BK412) hb); replace BK420 := uD (blk_below (g := gb420) (o := .cells #[.int .i64 t413, .int .i64 t414, .bool t415, .slice Ao18 t416.length co18] 29 (0, 0)) (by (with_reducible repeat first|apply uH|apply uJ|apply uG); refine uP (cs := #[.int .i64 t413, .int .i64 t414, .bool t415, .slice none 0 0]) ?_ 3 _ rfl; (with_reducible repeat first|apply uH|apply uJ|apply uG); refine uP (cs := #[.int .i64 t413, .int .i64 t414, .bool false, .slice none 0 0]) ?_ 2 _ rfl; (with_reducible repeat first|apply uH|apply uJ|apply uG); refine uP (cs := #[.int .i64 t413, .int .i64 0, .bool false, .slice none 0 0]) ?_ 1 _ rfl; (with_reducible repeat first|apply uH|apply uJ|apply uG); refine uP (cs := #[.int .i64 0, .int .i64 0, .bool false, .slice none 0 0]) ?_ 0 _ rfl; (with_reducible repeat first|apply uH|apply uJ|apply uG); exact BK420.out) hb); replace HB := uD (uO (pb HB) hb); (try clear hb); (try clear hb2); (try clear hk); (try clear hi); (try clear ho0)) | ((with_reducible refine gate_dst (N := 8) rfl ?_); refine bx 8 #[.int .i64 0, .int .i64 0, .bool false, .slice none 0 0] 29 ?_; intro gb428 hg w21 hbox hb; replace HO409 := uD (Kd.R_below (pr HO409) hb); replace HO418 := uD (Kd.R_below (pr HO418) hb); replace HO426 := uD (Kd.R_below (pr HO426) hb); have BK428 := uD (hbox); have GW428 := uD ((by rw [hg]; exact (uN (pb HB)) : w.heap.size ≤ gb428)); have GE428 := uD ((by rw [hg]; exact (uN (pb HB)) : w.heap.size ≤ gb428)); replace HB := uD (uO (pb HB) hb); have NB412_428 := uD ((by rw [hg]; exact Nat.ne_of_lt (blk_lt (pk BK412)) : gb412 ≠ gb428)); have NB428_412 := uD ((by rw [hg]; exact Nat.ne_of_gt (blk_lt (pk BK412)) : gb428 ≠ gb412)); replace BK412 := uD (blk_below (pk BK412) hb); have NB420_428 := uD ((by rw [hg]; exact Nat.ne_of_lt (blk_lt (pk BK420)) : gb420 ≠ gb428)); have NB428_420 := uD ((by rw [hg]; exact Nat.ne_of_gt (blk_lt (pk BK420)) : gb428 ≠ gb420)); replace BK420 := uD (blk_below (pk BK420) hb); clear hb hbox hg; have hnb22 := NB428_412.out; have hnc22 := NB412_428.out; have hnb23 := NB428_420.out; have hnc23 := NB420_428.out; obtain ⟨hcz24_0, hcz24_1, hcz24_2, hcz24_3, hfz24_0, hfz24_1, hfz24_2, hfz24_3⟩ := cz4 BK428; obtain ⟨Ao25, co25, eo25⟩ := Kd.R_slice HO426.out; subst eo25; obtain ⟨hcz26_0, hcz26_1, hcz26_2, hcz26_3, hfz26_0, hfz26_1, hfz26_2, hfz26_3⟩ := cz4 BK412) | ((with_reducible refine gate_callee (f := 27) rfl ?_); refine gl (some 40) Try.func27 #[.agg #[.int .i64 t404, .int .i64 t405, .bool t406, .slice Ao13 t407.length co13]] ?_; (with_reducible refine (impl_Leave.calls k t404 t405 t406 _ _ t407 t429 t430 t431 t432 t435 t436 _ ?side1 ?side2 A7.out).mono ?_); (case side1 => refine (Kd.R_reads' (e := 53) (base := w.heap.size) (ok := fun k_ => ((True ∧ some k_ ≠ (.slice Ao18 t416.length co18 : Value).ownBlock) ∧ some k_ ≠ (.slice Ao25 t424.length co25 : Value).ownBlock)) (n := t407.length) (c := co13) ?_).2.2; exact (by (with_reducible repeat (first | apply uU | apply uS | apply uT)); exact (uX (uV (p := ⟨gb428, 3, none⟩) (uV (p := ⟨gb428, 2, none⟩) (uV (p := ⟨gb428, 1, none⟩) (uV (p := ⟨gb428, 0, none⟩) (uW HO409.out BK428.out (by decide)) (fun _ hk => hk.2) (.int .i64 t421)) (fun _ hk => hk.2) (.int .i64 t422)) (fun _ hk => hk.2) (.bool t423)) (fun _ hk => hk.2) (.slice Ao25 t424.length co25)) (fun _ h_ => h_.1)))); (case side2 => exact (Kd.R_reads' HO409.out).2.1); rintro e w27 ⟨v433, rfl, ho0, hb⟩; refine ⟨_, rfl, ?_⟩; have HO434 := uD (Kd.Q_lower (Kd.Q_new' (Kd.Q_new' (Kd.Q_new' ho0 (Kd.R_lt (by (with_reducible repeat (first | apply uU | apply uS | apply uT)); exact (uX (uV (p := ⟨gb428, 3, none⟩) (uV (p := ⟨gb428, 2, none⟩) (uV (p := ⟨gb428, 1, none⟩) (uV (p := ⟨gb428, 0, none⟩) (uW HO409.out BK428.out (by decide)) (fun _ hk => hk.2) (.int .i64 t421)) (fun _ hk => hk.2) (.int .i64 t422)) (fun _ hk => hk.2) (.bool t423)) (fun _ hk => hk.2) (.slice Ao25 t424.length co25)) (fun _ h_ => h_.1))))) (Kd.R_lt (by (with_reducible repeat (first | apply uU | apply uS | apply uT)); exact (uX (uV (p := ⟨gb428, 3, none⟩) (uV (p := ⟨gb428, 2, none⟩) (uV (p := ⟨gb428, 1, none⟩) (uV (p := ⟨gb428, 0, none⟩) (uW HO418.out BK428.out (by decide)) (fun _ hk => hk.2) (.int .i64 t421)) (fun _ hk => hk.2) (.int .i64 t422)) (fun _ hk => hk.2) (.bool t423)) (fun _ hk => hk.2) (.slice Ao25 t424.length co25)) (fun _ h_ => h_.1))))) (Kd.R_lt (by (with_reducible repeat (first | apply uU | apply uS | apply uT)); exact (uX (uV (p := ⟨gb428, 3, none⟩) (uV (p := ⟨gb428, 2, none⟩) (uV (p := ⟨gb428, 1, none⟩) (uV (p := ⟨gb428, 0, none⟩) (uW HO426.out BK428.out (by decide)) (fun _ hk => hk.2) (.int .i64 t421)) (fun _ hk => hk.2) (.int .i64 t422)) (fun _ hk => hk.2) (.bool t423)) (fun _ hk => hk.2) (.slice Ao25 t424.length co25)) (fun _ h_ => h_.1))))) (uN (pb HB))); replace HO409 := uD (Kd.R_elder' (by (with_reducible repeat (first | apply uU | apply uS | apply uT)); exact (uX (uV (p := ⟨gb428, 3, none⟩) (uV (p := ⟨gb428, 2, none⟩) (uV (p := ⟨gb428, 1, none⟩) (uV (p := ⟨gb428, 0, none⟩) (uW HO409.out BK428.out (by decide)) (fun _ hk => hk.2) (.int .i64 t421)) (fun _ hk => hk.2) (.int .i64 t422)) (fun _ hk => hk.2) (.bool t423)) (fun _ hk => hk.2) (.slice Ao25 t424.length co25)) (fun _ h_ => h_.1))) (Kd.Q_base ho0) hb); replace HO418 := uD (Kd.R_elder' (by (with_reducible repeat (first | apply uU | apply uS | apply uT)); exact (uX (uV (p := ⟨gb428, 3, none⟩) (uV (p := ⟨gb428, 2, none⟩) (uV (p := ⟨gb428, 1, none⟩) (uV (p := ⟨gb428, 0, none⟩) (uW HO418.out BK428.out (by decide)) (fun _ hk => hk.2) (.int .i64 t421)) (fun _ hk => hk.2) (.int .i64 t422)) (fun _ hk => hk.2) (.bool t423)) (fun _ hk => hk.2) (.slice Ao25 t424.length co25)) (fun _ h_ => h_.1))) (Kd.Q_base ho0) hb); replace HO426 := uD (Kd.R_elder' (by (with_reducible repeat (first | apply uU | apply uS | apply uT)); exact (uX (uV (p := ⟨gb428, 3, none⟩) (uV (p := ⟨gb428, 2, none⟩) (uV (p := ⟨gb428, 1, none⟩) (uV (p := ⟨gb428, 0, none⟩) (uW HO426.out BK428.out (by decide)) (fun _ hk => hk.2) (.int .i64 t421)) (fun _ hk => hk.2) (.int .i64 t422)) (fun _ hk => hk.2) (.bool t423)) (fun _ hk => hk.2) (.slice Ao25 t424.length co25)) (fun _ h_ => h_.1))) (Kd.Q_base ho0) hb); replace BK412 := uD (blk_below (g := gb412) (o := .cells #[.int .i64 t404, .int .i64 t405, .bool t406, .slice Ao13 t407.length co13] 29 (0, 0)) (by exact ps BK412) hb); replace BK420 := uD (blk_below (g := gb420) (o := .cells #[.int .i64 t413, .int .i64 t414, .bool t415, .slice Ao18 t416.length co18] 29 (0, 0)) (by exact ps BK420) hb); replace BK428 := uD (blk_below (g := gb428) (o := .cells #[.int .i64 t421, .int .i64 t422, .bool t423, .slice Ao25 t424.length co25] 29 (0, 0)) (by (with_reducible repeat first|apply uH|apply uJ|apply uG); refine uP (cs := #[.int .i64 t421, .int .i64 t422, .bool t423, .slice none 0 0]) ?_ 3 _ rfl; (with_reducible repeat first|apply uH|apply uJ|apply uG); refine uP (cs := #[.int .i64 t421, .int .i64 t422, .bool false, .slice none 0 0]) ?_ 2 _ rfl; (with_reducible repeat first|apply uH|apply uJ|apply uG); refine uP (cs := #[.int .i64 t421, .int .i64 0, .bool false, .slice none 0 0]) ?_ 1 _ rfl; (with_reducible repeat first|apply uH|apply uJ|apply uG); refine uP (cs := #[.int .i64 0, .int .i64 0, .bool false, .slice none 0 0]) ?_ 0 _ rfl; (with_reducible repeat first|apply uH|apply uJ|apply uG); exact BK428.out) hb); replace HB := uD (uO (pb HB) hb); (try clear hb); (try clear hb2); (try clear hk); (try clear hi); (try clear ho0)) | ((with_reducible refine gate_dst (N := 10) rfl ?_); refine bx 10 #[.int .i64 0, .int .i64 0, .bool false, .slice none 0 0] 29 ?_; intro gb437 hg w28 hbox hb; replace HO409 := uD (Kd.R_below (pr HO409) hb); replace HO418 := uD (Kd.R_below (pr HO418) hb); replace HO426 := uD (Kd.R_below (pr HO426) hb); replace HO434 := uD (Kd.Q_below (pq HO434) hb); have BK437 := uD (hbox); have GW437 := uD ((by rw [hg]; exact (uN (pb HB)) : w.heap.size ≤ gb437)); have GE437 := uD ((by rw [hg]; exact (uN (pb HB)) : w.heap.size ≤ gb437)); replace HB := uD (uO (pb HB) hb); have NB412_437 := uD ((by rw [hg]; exact Nat.ne_of_lt (blk_lt (pk BK412)) : gb412 ≠ gb437)); have NB437_412 := uD ((by rw [hg]; exact Nat.ne_of_gt (blk_lt (pk BK412)) : gb437 ≠ gb412)); replace BK412 := uD (blk_below (pk BK412) hb); have NB420_437 := uD ((by rw [hg]; exact Nat.ne_of_lt (blk_lt (pk BK420)) : gb420 ≠ gb437)); have NB437_420 := uD ((by rw [hg]; exact Nat.ne_of_gt (blk_lt (pk BK420)) : gb437 ≠ gb420)); replace BK420 := uD (blk_below (pk BK420) hb); have NB428_437 := uD ((by rw [hg]; exact Nat.ne_of_lt (blk_lt (pk BK428)) : gb428 ≠ gb437)); have NB437_428 := uD ((by rw [hg]; exact Nat.ne_of_gt (blk_lt (pk BK428)) : gb437 ≠ gb428)); replace BK428 := uD (blk_below (pk BK428) hb); clear hb hbox hg; have hnb29 := NB437_412.out; have hnc29 := NB412_437.out; have hnb30 := NB437_420.out; have hnc30 := NB420_437.out; have hnb31 := NB437_428.out; have hnc31 := NB428_437.out; obtain ⟨hcz32_0, hcz32_1, hcz32_2, hcz32_3, hfz32_0, hfz32_1, hfz32_2, hfz32_3⟩ := cz4 BK437; obtain ⟨Ao33, co33, eo33, _⟩ := Kd.Q_slice HO434.out; subst eo33; obtain ⟨hcz34_0, hcz34_1, hcz34_2, hcz34_3, hfz34_0, hfz34_1, hfz34_2, hfz34_3⟩ := cz4 BK412) | ((with_reducible refine gate_callee (f := 26) rfl ?_); refine gl (some 46) Try.func26 #[.agg #[.int .i64 t404, .int .i64 t405, .bool t406, .slice Ao13 t407.length co13]] ?_; (with_reducible refine (spec_Leave.calls k t404 t405 t406 _ _ t407 t438 t439 t440 t441 t444 t445 _ ?side1 ?side2 A8.out).mono ?_); (case side1 => refine (Kd.R_reads' (e := 53) (base := w.heap.size) (ok := fun k_ => (((True ∧ some k_ ≠ (.slice Ao18 t416.length co18 : Value).ownBlock) ∧ some k_ ≠ (.slice Ao25 t424.length co25 : Value).ownBlock) ∧ some k_ ≠ (.slice Ao33 t432.length co33 : Value).ownBlock)) (n := t407.length) (c := co13) ?_).2.2; exact (by (with_reducible repeat (first | apply uU | apply uS | apply uT)); exact (uX (uV (p := ⟨gb437, 3, none⟩) (uV (p := ⟨gb437, 2, none⟩) (uV (p := ⟨gb437, 1, none⟩) (uV (p := ⟨gb437, 0, none⟩) (uW HO409.out BK437.out (by decide)) (fun _ hk => hk.2) (.int .i64 t429)) (fun _ hk => hk.2) (.int .i64 t430)) (fun _ hk => hk.2) (.bool t431)) (fun _ hk => hk.2) (.slice Ao33 t432.length co33)) (fun _ h_ => h_.1)))); (case side2 => exact (Kd.R_reads' HO409.out).2.1); rintro e w35 ⟨v442, rfl, ho0, hb⟩; refine ⟨_, rfl, ?_⟩; have HO443 := uD (Kd.R_lower (Kd.R_new' (Kd.R_new' (Kd.R_new' (Kd.R_new' ho0 (Kd.R_lt (by (with_reducible repeat (first | apply uU | apply uS | apply uT)); exact (uX (uV (p := ⟨gb437, 3, none⟩) (uV (p := ⟨gb437, 2, none⟩) (uV (p := ⟨gb437, 1, none⟩) (uV (p := ⟨gb437, 0, none⟩) (uW HO409.out BK437.out (by decide)) (fun _ hk => hk.2) (.int .i64 t429)) (fun _ hk => hk.2) (.int .i64 t430)) (fun _ hk => hk.2) (.bool t431)) (fun _ hk => hk.2) (.slice Ao33 t432.length co33)) (fun _ h_ => h_.1))))) (Kd.R_lt (by (with_reducible repeat (first | apply uU | apply uS | apply uT)); exact (uX (uV (p := ⟨gb437, 3, none⟩) (uV (p := ⟨gb437, 2, none⟩) (uV (p := ⟨gb437, 1, none⟩) (uV (p := ⟨gb437, 0, none⟩) (uW HO418.out BK437.out (by decide)) (fun _ hk => hk.2) (.int .i64 t429)) (fun _ hk => hk.2) (.int .i64 t430)) (fun _ hk => hk.2) (.bool t431)) (fun _ hk => hk.2) (.slice Ao33 t432.length co33)) (fun _ h_ => h_.1))))) (Kd.R_lt (by (with_reducible repeat (first | apply uU | apply uS | apply uT)); exact (uX (uV (p := ⟨gb437, 3, none⟩) (uV (p := ⟨gb437, 2, none⟩) (uV (p := ⟨gb437, 1, none⟩) (uV (p := ⟨gb437, 0, none⟩) (uW HO426.out BK437.out (by decide)) (fun _ hk => hk.2) (.int .i64 t429)) (fun _ hk => hk.2) (.int .i64 t430)) (fun _ hk => hk.2) (.bool t431)) (fun _ hk => hk.2) (.slice Ao33 t432.length co33)) (fun _ h_ => h_.1))))) (Kd.Q_lt (by (with_reducible repeat (first | apply Kd.Q_alloc | apply Kd.Q_drewN | apply Kd.Q_drew)); exact (Kd.Q_mono (Kd.Q_far (p := ⟨gb437, 3, none⟩) (Kd.Q_far (p := ⟨gb437, 2, none⟩) (Kd.Q_far (p := ⟨gb437, 1, none⟩) (Kd.Q_far (p := ⟨gb437, 0, none⟩) (Kd.Q_types HO434.out BK437.out (by decide)) (fun _ hk => hk.2) (.int .i64 t429)) (fun _ hk => hk.2) (.int .i64 t430)) (fun _ hk => hk.2) (.bool t431)) (fun _ hk => hk.2) (.slice Ao33 t432.length co33)) (fun _ h_ => h_.1))))) (uN (pb HB))); replace HO409 := uD (Kd.R_elder' (by (with_reducible repeat (first | apply uU | apply uS | apply uT)); exact (uX (uV (p := ⟨gb437, 3, none⟩) (uV (p := ⟨gb437, 2, none⟩) (uV (p := ⟨gb437, 1, none⟩) (uV (p := ⟨gb437, 0, none⟩) (uW HO409.out BK437.out (by decide)) (fun _ hk => hk.2) (.int .i64 t429)) (fun _ hk => hk.2) (.int .i64 t430)) (fun _ hk => hk.2) (.bool t431)) (fun _ hk => hk.2) (.slice Ao33 t432.length co33)) (fun _ h_ => h_.1))) (Kd.R_base ho0) hb); replace HO418 := uD (Kd.R_elder' (by (with_reducible repeat (first | apply uU | apply uS | apply uT)); exact (uX (uV (p := ⟨gb437, 3, none⟩) (uV (p := ⟨gb437, 2, none⟩) (uV (p := ⟨gb437, 1, none⟩) (uV (p := ⟨gb437, 0, none⟩) (uW HO418.out BK437.out (by decide)) (fun _ hk => hk.2) (.int .i64 t429)) (fun _ hk => hk.2) (.int .i64 t430)) (fun _ hk => hk.2) (.bool t431)) (fun _ hk => hk.2) (.slice Ao33 t432.length co33)) (fun _ h_ => h_.1))) (Kd.R_base ho0) hb); replace HO426 := uD (Kd.R_elder' (by (with_reducible repeat (first | apply uU | apply uS | apply uT)); exact (uX (uV (p := ⟨gb437, 3, none⟩) (uV (p := ⟨gb437, 2, none⟩) (uV (p := ⟨gb437, 1, none⟩) (uV (p := ⟨gb437, 0, none⟩) (uW HO426.out BK437.out (by decide)) (fun _ hk => hk.2) (.int .i64 t429)) (fun _ hk => hk.2) (.int .i64 t430)) (fun _ hk => hk.2) (.bool t431)) (fun _ hk => hk.2) (.slice Ao33 t432.length co33)) (fun _ h_ => h_.1))) (Kd.R_base ho0) hb); replace HO434 := uD (Kd.Q_elder' (by (with_reducible repeat (first | apply Kd.Q_alloc | apply Kd.Q_drewN | apply Kd.Q_drew)); exact (Kd.Q_mono (Kd.Q_far (p := ⟨gb437, 3, none⟩) (Kd.Q_far (p := ⟨gb437, 2, none⟩) (Kd.Q_far (p := ⟨gb437, 1, none⟩) (Kd.Q_far (p := ⟨gb437, 0, none⟩) (Kd.Q_types HO434.out BK437.out (by decide)) (fun _ hk => hk.2) (.int .i64 t429)) (fun _ hk => hk.2) (.int .i64 t430)) (fun _ hk => hk.2) (.bool t431)) (fun _ hk => hk.2) (.slice Ao33 t432.length co33)) (fun _ h_ => h_.1))) (Kd.R_base ho0) hb); replace BK412 := uD (blk_below (g := gb412) (o := .cells #[.int .i64 t404, .int .i64 t405, .bool t406, .slice Ao13 t407.length co13] 29 (0, 0)) (by exact ps BK412) hb); replace BK420 := uD (blk_below (g := gb420) (o := .cells #[.int .i64 t413, .int .i64 t414, .bool t415, .slice Ao18 t416.length co18] 29 (0, 0)) (by exact ps BK420) hb); replace BK428 := uD (blk_below (g := gb428) (o := .cells #[.int .i64 t421, .int .i64 t422, .bool t423, .slice Ao25 t424.length co25] 29 (0, 0)) (by exact ps BK428) hb); replace BK437 := uD (blk_below (g := gb437) (o := .cells #[.int .i64 t429, .int .i64 t430, .bool t431, .slice Ao33 t432.length co33] 29 (0, 0)) (by (with_reducible repeat first|apply uH|apply uJ|apply uG); refine uP (cs := #[.int .i64 t429, .int .i64 t430, .bool t431, .slice none 0 0]) ?_ 3 _ rfl; (with_reducible repeat first|apply uH|apply uJ|apply uG); refine uP (cs := #[.int .i64 t429, .int .i64 t430, .bool false, .slice none 0 0]) ?_ 2 _ rfl; (with_reducible repeat first|apply uH|apply uJ|apply uG); refine uP (cs := #[.int .i64 t429, .int .i64 0, .bool false, .slice none 0 0]) ?_ 1 _ rfl; (with_reducible repeat first|apply uH|apply uJ|apply uG); refine uP (cs := #[.int .i64 0, .int .i64 0, .bool false, .slice none 0 0]) ?_ 0 _ rfl; (with_reducible repeat first|apply uH|apply uJ|apply uG); exact BK437.out) hb); replace HB := uD (uO (pb HB) hb); (try clear hb); (try clear hb2); (try clear hk); (try clear hi); (try clear ho0)) | ((with_reducible refine gate_dst (N := 13) rfl ?_); refine bx 13 #[.int .i64 0, .int .i64 0, .bool false, .slice none 0 0] 29 ?_; intro gb446 hg w36 hbox hb; replace HO409 := uD (Kd.R_below (pr HO409) hb); replace HO418 := uD (Kd.R_below (pr HO418) hb); replace HO426 := uD (Kd.R_below (pr HO426) hb); replace HO434 := uD (Kd.Q_below (pq HO434) hb); replace HO443 := uD (Kd.R_below (pr HO443) hb); have BK446 := uD (hbox); have GW446 := uD ((by rw [hg]; exact (uN (pb HB)) : w.heap.size ≤ gb446)); have GE446 := uD ((by rw [hg]; exact (uN (pb HB)) : w.heap.size ≤ gb446)); replace HB := uD (uO (pb HB) hb); have NB412_446 := uD ((by rw [hg]; exact Nat.ne_of_lt (blk_lt (pk BK412)) : gb412 ≠ gb446)); have NB446_412 := uD ((by rw [hg]; exact Nat.ne_of_gt (blk_lt (pk BK412)) : gb446 ≠ gb412)); replace BK412 := uD (blk_below (pk BK412) hb); have NB420_446 := uD ((by rw [hg]; exact Nat.ne_of_lt (blk_lt (pk BK420)) : gb420 ≠ gb446)); have NB446_420 := uD ((by rw [hg]; exact Nat.ne_of_gt (blk_lt (pk BK420)) : gb446 ≠ gb420)); replace BK420 := uD (blk_below (pk BK420) hb); have NB428_446 := uD ((by rw [hg]; exact Nat.ne_of_lt (blk_lt (pk BK428)) : gb428 ≠ gb446)); have NB446_428 := uD ((by rw [hg]; exact Nat.ne_of_gt (blk_lt (pk BK428)) : gb446 ≠ gb428)); replace BK428 := uD (blk_below (pk BK428) hb); have NB437_446 := uD ((by rw [hg]; exact Nat.ne_of_lt (blk_lt (pk BK437)) : gb437 ≠ gb446)); have NB446_437 := uD ((by rw [hg]; exact Nat.ne_of_gt (blk_lt (pk BK437)) : gb446 ≠ gb437)); replace BK437 := uD (blk_below (pk BK437) hb); clear hb hbox hg; have hnb37 := NB446_412.out; have hnc37 := NB412_446.out; have hnb38 := NB446_420.out; have hnc38 := NB420_446.out; have hnb39 := NB446_428.out; have hnc39 := NB428_446.out; have hnb40 := NB446_437.out; have hnc40 := NB437_446.out; obtain ⟨hcz41_0, hcz41_1, hcz41_2, hcz41_3, hfz41_0, hfz41_1, hfz41_2, hfz41_3⟩ := cz4 BK446; obtain ⟨Ao42, co42, eo42⟩ := Kd.R_slice HO443.out; subst eo42))
  (try simp only [uc, uA, uB, uC])
  go_cut [88] (fun v88 wc => ∃ (kq : Nat) (x88_8 : Bool), v88 = .bool x88_8 ∧ Aside0 (laws_FnBeltEnters.j0 kq t410 t411 t419 x88_8 t404 t405 t406 t407 t413 t414 t415 t416 = some true) ∧ Aside0 (kq ≤ k) ∧ Aside0 (Kd.Q k53 53 wc w.heap.size (fun k_ => some k_ ≠ ((.slice Ao18 t416.length co18) : Value).ownBlock ∧ some k_ ≠ ((.slice Ao25 t424.length co25) : Value).ownBlock ∧ some k_ ≠ ((.slice Ao33 t432.length co33) : Value).ownBlock ∧ some k_ ≠ ((.slice Ao42 t441.length co42) : Value).ownBlock) (.slice Ao13 t407.length co13) t407) ∧ Aside0 (Kd.Q k53 53 wc w.heap.size (fun k_ => some k_ ≠ ((.slice Ao13 t407.length co13) : Value).ownBlock ∧ some k_ ≠ ((.slice Ao25 t424.length co25) : Value).ownBlock ∧ some k_ ≠ ((.slice Ao33 t432.length co33) : Value).ownBlock ∧ some k_ ≠ ((.slice Ao42 t441.length co42) : Value).ownBlock) (.slice Ao18 t416.length co18) t416) ∧ Aside0 (Kd.Q k53 53 wc w.heap.size (fun k_ => some k_ ≠ ((.slice Ao13 t407.length co13) : Value).ownBlock ∧ some k_ ≠ ((.slice Ao18 t416.length co18) : Value).ownBlock ∧ some k_ ≠ ((.slice Ao33 t432.length co33) : Value).ownBlock ∧ some k_ ≠ ((.slice Ao42 t441.length co42) : Value).ownBlock) (.slice Ao25 t424.length co25) t424) ∧ Aside0 (Kd.Q k53 53 wc w.heap.size (fun k_ => some k_ ≠ ((.slice Ao13 t407.length co13) : Value).ownBlock ∧ some k_ ≠ ((.slice Ao18 t416.length co18) : Value).ownBlock ∧ some k_ ≠ ((.slice Ao25 t424.length co25) : Value).ownBlock ∧ some k_ ≠ ((.slice Ao42 t441.length co42) : Value).ownBlock) (.slice Ao33 t432.length co33) t432) ∧ Aside0 (Kd.Q k53 53 wc w.heap.size (fun k_ => some k_ ≠ ((.slice Ao13 t407.length co13) : Value).ownBlock ∧ some k_ ≠ ((.slice Ao18 t416.length co18) : Value).ownBlock ∧ some k_ ≠ ((.slice Ao25 t424.length co25) : Value).ownBlock ∧ some k_ ≠ ((.slice Ao33 t432.length co33) : Value).ownBlock) (.slice Ao42 t441.length co42) t441) ∧ Aside0 (wc.heap[gb412]? = some (.cells #[.int .i64 t404, .int .i64 t405, .bool t406, (.slice Ao13 t407.length co13)] 29 (0, 0))) ∧ Aside0 (wc.heap[gb420]? = some (.cells #[.int .i64 t413, .int .i64 t414, .bool t415, (.slice Ao18 t416.length co18)] 29 (0, 0))) ∧ Aside0 (wc.heap[gb428]? = some (.cells #[.int .i64 t421, .int .i64 t422, .bool t423, (.slice Ao25 t424.length co25)] 29 (0, 0))) ∧ Aside0 (wc.heap[gb437]? = some (.cells #[.int .i64 t429, .int .i64 t430, .bool t431, (.slice Ao33 t432.length co33)] 29 (0, 0))) ∧ Aside0 (wc.heap[gb446]? = some (.cells #[.int .i64 t438, .int .i64 t439, .bool t440, (.slice Ao42 t441.length co42)] 29 (0, 0))) ∧ Aside0 (Below w.heap.size w wc))
  case first =>
   have H := HC9.out
   clear HC9
   by_cases c43 : (t419 != t427) = true
   ·rw [if_pos c43] at H
    have c43b0 : (t419 != t427) = true := c43
    (try (have c43b1 : decide (t419 = t427) = false := by simpa using c43))
    (try (have c43b2 : (t419 == t427) = false := by simpa using c43))
    (try (have c43b3 : ¬ (t419 = t427) := by simpa using c43))
    clear c43
    (first | rw [c43b0] | (simp only [uZ, ua]; rw [c43b0]) | skip)
    exact absurd H (by cases k <;> simp [laws_FnBeltEnters.j0])
   ·rw [if_neg c43] at H
    have c43b0 : (t419 != t427) = false := by simpa using c43
    (try (have c43b1 : decide (t419 = t427) = true := by simpa using c43))
    (try (have c43b2 : (t419 == t427) = true := by simpa using c43))
    clear c43
    (first | rw [c43b0] | (simp only [uZ, ua]; rw [c43b0]) | skip)
    replace H := Option.bind_eq_some_iff.mp H
    obtain ⟨t447, A440, H⟩ := H
    replace H : (if t447 = true then (if (t436 != t445) = true then (laws_FnBeltEnters.j0 k t410 t411 t419 true t404 t405 t406 t407 t413 t414 t415 t416) else (if t435 = t444 then ((laws_sameBelt.f k t429 t430 t431 t432 t438 t439 t440 t441).bind fun t448 => (if t448 = true then ((impl_Backlog.f k t404 t405 t406 t407).bind fun t449 => ((spec_Backlog.f k t404 t405 t406 t407).bind fun t450 => (if t449 = t450 then ((impl_FreeBehind.f k t404 t405 t406 t407).bind fun t451 => ((spec_FreeBehind.f k t404 t405 t406 t407).bind fun t452 => (laws_FnBeltEnters.j0 k t410 t411 t419 (t451 != t452) t404 t405 t406 t407 t413 t414 t415 t416))) else (laws_FnBeltEnters.j0 k t410 t411 t419 true t404 t405 t406 t407 t413 t414 t415 t416)))) else (laws_FnBeltEnters.j0 k t410 t411 t419 true t404 t405 t406 t407 t413 t414 t415 t416))) else (laws_FnBeltEnters.j0 k t410 t411 t419 true t404 t405 t406 t407 t413 t414 t415 t416))) else (laws_FnBeltEnters.j0 k t410 t411 t419 true t404 t405 t406 t407 t413 t414 t415 t416)) = some true := H
    have A44 := uD A440
    clear A440
    by_cases c45 : t447 = true
    ·subst c45
     have H1 : (if (t436 != t445) = true then (laws_FnBeltEnters.j0 k t410 t411 t419 true t404 t405 t406 t407 t413 t414 t415 t416) else (if t435 = t444 then ((laws_sameBelt.f k t429 t430 t431 t432 t438 t439 t440 t441).bind fun t448 => (if t448 = true then ((impl_Backlog.f k t404 t405 t406 t407).bind fun t449 => ((spec_Backlog.f k t404 t405 t406 t407).bind fun t450 => (if t449 = t450 then ((impl_FreeBehind.f k t404 t405 t406 t407).bind fun t451 => ((spec_FreeBehind.f k t404 t405 t406 t407).bind fun t452 => (laws_FnBeltEnters.j0 k t410 t411 t419 (t451 != t452) t404 t405 t406 t407 t413 t414 t415 t416))) else (laws_FnBeltEnters.j0 k t410 t411 t419 true t404 t405 t406 t407 t413 t414 t415 t416)))) else (laws_FnBeltEnters.j0 k t410 t411 t419 true t404 t405 t406 t407 t413 t414 t415 t416))) else (laws_FnBeltEnters.j0 k t410 t411 t419 true t404 t405 t406 t407 t413 t414 t415 t416))) = some true := by rw [if_pos rfl] at H; first | done | exact H
     clear H
     have H := H1
     clear H1
     by_cases c46 : (t436 != t445) = true
     ·rw [if_pos c46] at H
      have c46b0 : (t436 != t445) = true := c46
      (try (have c46b1 : decide (t436 = t445) = false := by simpa using c46))
      (try (have c46b2 : (t436 == t445) = false := by simpa using c46))
      (try (have c46b3 : ¬ (t436 = t445) := by simpa using c46))
      clear c46
      exact absurd H (by cases k <;> simp [laws_FnBeltEnters.j0])
     ·rw [if_neg c46] at H
      have c46b0 : (t436 != t445) = false := by simpa using c46
      (try (have c46b1 : decide (t436 = t445) = true := by simpa using c46))
      (try (have c46b2 : (t436 == t445) = true := by simpa using c46))
      clear c46
      by_cases c47 : t435 = t444
      ·rw [if_pos c47] at H
       have c47b0 : (t435 == t444) = true := beq_iff_eq.mpr c47
       have c47b1 : (t435 != t444) = false := bne_eq_false_iff_eq.mpr c47
       clear c47
       replace H := Option.bind_eq_some_iff.mp H
       obtain ⟨t448, A480, H⟩ := H
       replace H : (if t448 = true then ((impl_Backlog.f k t404 t405 t406 t407).bind fun t449 => ((spec_Backlog.f k t404 t405 t406 t407).bind fun t450 => (if t449 = t450 then ((impl_FreeBehind.f k t404 t405 t406 t407).bind fun t451 => ((spec_FreeBehind.f k t404 t405 t406 t407).bind fun t452 => (laws_FnBeltEnters.j0 k t410 t411 t419 (t451 != t452) t404 t405 t406 t407 t413 t414 t415 t416))) else (laws_FnBeltEnters.j0 k t410 t411 t419 true t404 t405 t406 t407 t413 t414 t415 t416)))) else (laws_FnBeltEnters.j0 k t410 t411 t419 true t404 t405 t406 t407 t413 t414 t415 t416)) = some true := H
       have A48 := uD A480
       clear A480
       by_cases c49 : t448 = true
       ·subst c49
        have H1 : ((impl_Backlog.f k t404 t405 t406 t407).bind fun t449 => ((spec_Backlog.f k t404 t405 t406 t407).bind fun t450 => (if t449 = t450 then ((impl_FreeBehind.f k t404 t405 t406 t407).bind fun t451 => ((spec_FreeBehind.f k t404 t405 t406 t407).bind fun t452 => (laws_FnBeltEnters.j0 k t410 t411 t419 (t451 != t452) t404 t405 t406 t407 t413 t414 t415 t416))) else (laws_FnBeltEnters.j0 k t410 t411 t419 true t404 t405 t406 t407 t413 t414 t415 t416)))) = some true := by rw [if_pos rfl] at H; first | done | exact H
        clear H
        have H := H1
        clear H1
        replace H := Option.bind_eq_some_iff.mp H
        obtain ⟨t449, A500, H⟩ := H
        replace H : ((spec_Backlog.f k t404 t405 t406 t407).bind fun t450 => (if t449 = t450 then ((impl_FreeBehind.f k t404 t405 t406 t407).bind fun t451 => ((spec_FreeBehind.f k t404 t405 t406 t407).bind fun t452 => (laws_FnBeltEnters.j0 k t410 t411 t419 (t451 != t452) t404 t405 t406 t407 t413 t414 t415 t416))) else (laws_FnBeltEnters.j0 k t410 t411 t419 true t404 t405 t406 t407 t413 t414 t415 t416))) = some true := H
        have A50 := uD A500
        clear A500
        replace H := Option.bind_eq_some_iff.mp H
        obtain ⟨t450, A510, H⟩ := H
        replace H : (if t449 = t450 then ((impl_FreeBehind.f k t404 t405 t406 t407).bind fun t451 => ((spec_FreeBehind.f k t404 t405 t406 t407).bind fun t452 => (laws_FnBeltEnters.j0 k t410 t411 t419 (t451 != t452) t404 t405 t406 t407 t413 t414 t415 t416))) else (laws_FnBeltEnters.j0 k t410 t411 t419 true t404 t405 t406 t407 t413 t414 t415 t416)) = some true := H
        have A51 := uD A510
        clear A510
        by_cases c52 : t449 = t450
        ·rw [if_pos c52] at H
         have c52b0 : (t449 == t450) = true := beq_iff_eq.mpr c52
         have c52b1 : (t449 != t450) = false := bne_eq_false_iff_eq.mpr c52
         clear c52
         replace H := Option.bind_eq_some_iff.mp H
         obtain ⟨t451, A530, H⟩ := H
         replace H : ((spec_FreeBehind.f k t404 t405 t406 t407).bind fun t452 => (laws_FnBeltEnters.j0 k t410 t411 t419 (t451 != t452) t404 t405 t406 t407 t413 t414 t415 t416)) = some true := H
         have A53 := uD A530
         clear A530
         replace H := Option.bind_eq_some_iff.mp H
         obtain ⟨t452, A540, H⟩ := H
         replace H : (laws_FnBeltEnters.j0 k t410 t411 t419 (t451 != t452) t404 t405 t406 t407 t413 t414 t415 t416) = some true := H
         have A54 := uD A540
         clear A540
         have H' := uD H
         clear H
         try go_wp2
         have n0_ : Aside0 (Kd.R k53 53 ((((w36.setCell ⟨gb446, 0, none⟩ (.int .i64 t438)).setCell ⟨gb446, 1, none⟩ (.int .i64 t439)).setCell ⟨gb446, 2, none⟩ (.bool t440)).setCell ⟨gb446, 3, none⟩ (.slice Ao42 t441.length co42)) w.heap.size (fun k_ => some k_ ≠ (.slice Ao18 t416.length co18 : Value).ownBlock ∧ some k_ ≠ (.slice Ao25 t424.length co25 : Value).ownBlock ∧ some k_ ≠ (.slice Ao33 t432.length co33 : Value).ownBlock ∧ some k_ ≠ (.slice Ao42 t441.length co42 : Value).ownBlock) (.slice Ao13 t407.length co13) t407) := ⟨by (with_reducible repeat (first | apply uU | apply uS | apply uT)); exact uX (uV (p := ⟨gb446, 3, none⟩) (uV (p := ⟨gb446, 2, none⟩) (uV (p := ⟨gb446, 1, none⟩) (uV (p := ⟨gb446, 0, none⟩) (uW HO409.out BK446.out (by decide)) (fun _ hk => hk.2) (.int .i64 t438)) (fun _ hk => hk.2) (.int .i64 t439)) (fun _ hk => hk.2) (.bool t440)) (fun _ hk => hk.2) (.slice Ao42 t441.length co42)) (fun _ hk => ⟨hk.1.1.1.1.2, ⟨hk.1.1.1.2, ⟨hk.1.1.2, hk.1.2⟩⟩⟩)⟩
         have n1_ : Aside0 (Kd.R k53 53 ((((w36.setCell ⟨gb446, 0, none⟩ (.int .i64 t438)).setCell ⟨gb446, 1, none⟩ (.int .i64 t439)).setCell ⟨gb446, 2, none⟩ (.bool t440)).setCell ⟨gb446, 3, none⟩ (.slice Ao42 t441.length co42)) w.heap.size (fun k_ => some k_ ≠ (.slice Ao13 t407.length co13 : Value).ownBlock ∧ some k_ ≠ (.slice Ao25 t424.length co25 : Value).ownBlock ∧ some k_ ≠ (.slice Ao33 t432.length co33 : Value).ownBlock ∧ some k_ ≠ (.slice Ao42 t441.length co42 : Value).ownBlock) (.slice Ao18 t416.length co18) t416) := ⟨by (with_reducible repeat (first | apply uU | apply uS | apply uT)); exact uX (uV (p := ⟨gb446, 3, none⟩) (uV (p := ⟨gb446, 2, none⟩) (uV (p := ⟨gb446, 1, none⟩) (uV (p := ⟨gb446, 0, none⟩) (uW HO418.out BK446.out (by decide)) (fun _ hk => hk.2) (.int .i64 t438)) (fun _ hk => hk.2) (.int .i64 t439)) (fun _ hk => hk.2) (.bool t440)) (fun _ hk => hk.2) (.slice Ao42 t441.length co42)) (fun _ hk => ⟨hk.1.1.1.1.2, ⟨hk.1.1.1.2, ⟨hk.1.1.2, hk.1.2⟩⟩⟩)⟩
         have n2_ : Aside0 (Kd.R k53 53 ((((w36.setCell ⟨gb446, 0, none⟩ (.int .i64 t438)).setCell ⟨gb446, 1, none⟩ (.int .i64 t439)).setCell ⟨gb446, 2, none⟩ (.bool t440)).setCell ⟨gb446, 3, none⟩ (.slice Ao42 t441.length co42)) w.heap.size (fun k_ => some k_ ≠ (.slice Ao13 t407.length co13 : Value).ownBlock ∧ some k_ ≠ (.slice Ao18 t416.length co18 : Value).ownBlock ∧ some k_ ≠ (.slice Ao33 t432.length co33 : Value).ownBlock ∧ some k_ ≠ (.slice Ao42 t441.length co42 : Value).ownBlock) (.slice Ao25 t424.length co25) t424) := ⟨by (with_reducible repeat (first | apply uU | apply uS | apply uT)); exact uX (uV (p := ⟨gb446, 3, none⟩) (uV (p := ⟨gb446, 2, none⟩) (uV (p := ⟨gb446, 1, none⟩) (uV (p := ⟨gb446, 0, none⟩) (uW HO426.out BK446.out (by decide)) (fun _ hk => hk.2) (.int .i64 t438)) (fun _ hk => hk.2) (.int .i64 t439)) (fun _ hk => hk.2) (.bool t440)) (fun _ hk => hk.2) (.slice Ao42 t441.length co42)) (fun _ hk => ⟨hk.1.1.1.1.2, ⟨hk.1.1.1.2, ⟨hk.1.1.2, hk.1.2⟩⟩⟩)⟩
         have n3_ : Aside0 (Kd.Q k53 53 ((((w36.setCell ⟨gb446, 0, none⟩ (.int .i64 t438)).setCell ⟨gb446, 1, none⟩ (.int .i64 t439)).setCell ⟨gb446, 2, none⟩ (.bool t440)).setCell ⟨gb446, 3, none⟩ (.slice Ao42 t441.length co42)) w.heap.size (fun k_ => some k_ ≠ (.slice Ao13 t407.length co13 : Value).ownBlock ∧ some k_ ≠ (.slice Ao18 t416.length co18 : Value).ownBlock ∧ some k_ ≠ (.slice Ao25 t424.length co25 : Value).ownBlock ∧ some k_ ≠ (.slice Ao42 t441.length co42 : Value).ownBlock) (.slice Ao33 t432.length co33) t432) := ⟨by (with_reducible repeat (first | apply Kd.Q_alloc | apply Kd.Q_drewN | apply Kd.Q_drew)); exact Kd.Q_mono (Kd.Q_far (p := ⟨gb446, 3, none⟩) (Kd.Q_far (p := ⟨gb446, 2, none⟩) (Kd.Q_far (p := ⟨gb446, 1, none⟩) (Kd.Q_far (p := ⟨gb446, 0, none⟩) (Kd.Q_types HO434.out BK446.out (by decide)) (fun _ hk => hk.2) (.int .i64 t438)) (fun _ hk => hk.2) (.int .i64 t439)) (fun _ hk => hk.2) (.bool t440)) (fun _ hk => hk.2) (.slice Ao42 t441.length co42)) (fun _ hk => ⟨hk.1.1.1.1.2, ⟨hk.1.1.1.2, ⟨hk.1.1.2, hk.1.2⟩⟩⟩)⟩
         have n4_ : Aside0 (Kd.R k53 53 ((((w36.setCell ⟨gb446, 0, none⟩ (.int .i64 t438)).setCell ⟨gb446, 1, none⟩ (.int .i64 t439)).setCell ⟨gb446, 2, none⟩ (.bool t440)).setCell ⟨gb446, 3, none⟩ (.slice Ao42 t441.length co42)) w.heap.size (fun k_ => some k_ ≠ (.slice Ao13 t407.length co13 : Value).ownBlock ∧ some k_ ≠ (.slice Ao18 t416.length co18 : Value).ownBlock ∧ some k_ ≠ (.slice Ao25 t424.length co25 : Value).ownBlock ∧ some k_ ≠ (.slice Ao33 t432.length co33 : Value).ownBlock) (.slice Ao42 t441.length co42) t441) := ⟨by (with_reducible repeat (first | apply uU | apply uS | apply uT)); exact uX (uV (p := ⟨gb446, 3, none⟩) (uV (p := ⟨gb446, 2, none⟩) (uV (p := ⟨gb446, 1, none⟩) (uV (p := ⟨gb446, 0, none⟩) (uW HO443.out BK446.out (by decide)) (fun _ hk => hk.2) (.int .i64 t438)) (fun _ hk => hk.2) (.int .i64 t439)) (fun _ hk => hk.2) (.bool t440)) (fun _ hk => hk.2) (.slice Ao42 t441.length co42)) (fun _ hk => ⟨hk.1.1.1.1.2, ⟨hk.1.1.1.2, ⟨hk.1.1.2, hk.1.2⟩⟩⟩)⟩
         have n5_ : Aside0 (((((w36.setCell ⟨gb446, 0, none⟩ (.int .i64 t438)).setCell ⟨gb446, 1, none⟩ (.int .i64 t439)).setCell ⟨gb446, 2, none⟩ (.bool t440)).setCell ⟨gb446, 3, none⟩ (.slice Ao42 t441.length co42)).heap[gb412]? = some (.cells #[.int .i64 t404, .int .i64 t405, .bool t406, .slice Ao13 t407.length co13] 29 (0, 0))) := ⟨by exact ps BK412⟩
         have n6_ : Aside0 (((((w36.setCell ⟨gb446, 0, none⟩ (.int .i64 t438)).setCell ⟨gb446, 1, none⟩ (.int .i64 t439)).setCell ⟨gb446, 2, none⟩ (.bool t440)).setCell ⟨gb446, 3, none⟩ (.slice Ao42 t441.length co42)).heap[gb420]? = some (.cells #[.int .i64 t413, .int .i64 t414, .bool t415, .slice Ao18 t416.length co18] 29 (0, 0))) := ⟨by exact ps BK420⟩
         have n7_ : Aside0 (((((w36.setCell ⟨gb446, 0, none⟩ (.int .i64 t438)).setCell ⟨gb446, 1, none⟩ (.int .i64 t439)).setCell ⟨gb446, 2, none⟩ (.bool t440)).setCell ⟨gb446, 3, none⟩ (.slice Ao42 t441.length co42)).heap[gb428]? = some (.cells #[.int .i64 t421, .int .i64 t422, .bool t423, .slice Ao25 t424.length co25] 29 (0, 0))) := ⟨by exact ps BK428⟩
         have n8_ : Aside0 (((((w36.setCell ⟨gb446, 0, none⟩ (.int .i64 t438)).setCell ⟨gb446, 1, none⟩ (.int .i64 t439)).setCell ⟨gb446, 2, none⟩ (.bool t440)).setCell ⟨gb446, 3, none⟩ (.slice Ao42 t441.length co42)).heap[gb437]? = some (.cells #[.int .i64 t429, .int .i64 t430, .bool t431, .slice Ao33 t432.length co33] 29 (0, 0))) := ⟨by exact ps BK437⟩
         have n9_ : Aside0 (((((w36.setCell ⟨gb446, 0, none⟩ (.int .i64 t438)).setCell ⟨gb446, 1, none⟩ (.int .i64 t439)).setCell ⟨gb446, 2, none⟩ (.bool t440)).setCell ⟨gb446, 3, none⟩ (.slice Ao42 t441.length co42)).heap[gb446]? = some (.cells #[.int .i64 t438, .int .i64 t439, .bool t440, .slice Ao42 t441.length co42] 29 (0, 0))) := ⟨by (with_reducible repeat first|apply uH|apply uJ|apply uG); refine uP (cs := #[.int .i64 t438, .int .i64 t439, .bool t440, .slice none 0 0]) ?_ 3 _ rfl; (with_reducible repeat first|apply uH|apply uJ|apply uG); refine uP (cs := #[.int .i64 t438, .int .i64 t439, .bool false, .slice none 0 0]) ?_ 2 _ rfl; (with_reducible repeat first|apply uH|apply uJ|apply uG); refine uP (cs := #[.int .i64 t438, .int .i64 0, .bool false, .slice none 0 0]) ?_ 1 _ rfl; (with_reducible repeat first|apply uH|apply uJ|apply uG); refine uP (cs := #[.int .i64 0, .int .i64 0, .bool false, .slice none 0 0]) ?_ 0 _ rfl; (with_reducible repeat first|apply uH|apply uJ|apply uG); exact BK446.out⟩
         have n10_ : Aside0 (Below w.heap.size w ((((w36.setCell ⟨gb446, 0, none⟩ (.int .i64 t438)).setCell ⟨gb446, 1, none⟩ (.int .i64 t439)).setCell ⟨gb446, 2, none⟩ (.bool t440)).setCell ⟨gb446, 3, none⟩ (.slice Ao42 t441.length co42))) := ⟨pb HB⟩
         (try clear HO409)
         (try clear HO418)
         (try clear HO426)
         (try clear HO434)
         (try clear HO443)
         (try clear BK412)
         (try clear BK420)
         (try clear BK428)
         (try clear BK437)
         (try clear BK446)
         (try clear HB)
         generalize ((((w36.setCell ⟨gb446, 0, none⟩ (.int .i64 t438)).setCell ⟨gb446, 1, none⟩ (.int .i64 t439)).setCell ⟨gb446, 2, none⟩ (.bool t440)).setCell ⟨gb446, 3, none⟩ (.slice Ao42 t441.length co42)) = w55 at n0_ n1_ n2_ n3_ n4_ n5_ n6_ n7_ n8_ n9_ n10_ ⊢
         have HO409 := n0_
         have HO418 := n1_
         have HO426 := n2_
         have HO434 := n3_
         have HO443 := n4_
         have BK412 := n5_
         have BK420 := n6_
         have BK428 := n7_
         have BK437 := n8_
         have BK446 := n9_
         have HB := n10_
         clear n0_ n1_ n2_ n3_ n4_ n5_ n6_ n7_ n8_ n9_ n10_
         replace HO409 := uD (uT HO409.out)
         replace HO418 := uD (uT HO418.out)
         replace HO426 := uD (uT HO426.out)
         replace HO434 := uD (Kd.Q_drew HO434.out)
         replace HO443 := uD (uT HO443.out)
         replace BK412 := uD (uJ BK412.out)
         replace BK420 := uD (uJ BK420.out)
         replace BK428 := uD (uJ BK428.out)
         replace BK437 := uD (uJ BK437.out)
         replace BK446 := uD (uJ BK446.out)
         replace HB := uD (uK HB.out)
         refine start_ (n := 39) (S := fun w' => w'.cell? ⟨gb420, 0, none⟩ = some (.int .i64 t413) ∧ w'.cell? ⟨gb420, 1, none⟩ = some (.int .i64 t414) ∧ w'.cell? ⟨gb420, 2, none⟩ = some (.bool t415) ∧ w'.cell? ⟨gb420, 3, none⟩ = some (.slice Ao18 t416.length co18) ∧ w'.cell? ⟨gb428, 0, none⟩ = some (.int .i64 t421) ∧ w'.cell? ⟨gb428, 1, none⟩ = some (.int .i64 t422) ∧ w'.cell? ⟨gb428, 2, none⟩ = some (.bool t423) ∧ w'.cell? ⟨gb428, 3, none⟩ = some (.slice Ao25 t424.length co25) ∧ w'.cell? ⟨gb437, 0, none⟩ = some (.int .i64 t429) ∧ w'.cell? ⟨gb437, 1, none⟩ = some (.int .i64 t430) ∧ w'.cell? ⟨gb437, 2, none⟩ = some (.bool t431) ∧ w'.cell? ⟨gb437, 3, none⟩ = some (.slice Ao33 t432.length co33) ∧ w'.cell? ⟨gb446, 0, none⟩ = some (.int .i64 t438) ∧ w'.cell? ⟨gb446, 1, none⟩ = some (.int .i64 t439) ∧ w'.cell? ⟨gb446, 2, none⟩ = some (.bool t440) ∧ w'.cell? ⟨gb446, 3, none⟩ = some (.slice Ao42 t441.length co42) ∧ w'.cell? ⟨gb412, 0, none⟩ = some (.int .i64 t404) ∧ w'.cell? ⟨gb412, 1, none⟩ = some (.int .i64 t405) ∧ w'.cell? ⟨gb412, 2, none⟩ = some (.bool t406) ∧ w'.cell? ⟨gb412, 3, none⟩ = some (.slice Ao13 t407.length co13)) (ds := []) #[F,F,F,F,F,F,F,F,F,F,F,F,F,F,F,F,F,F,F,F,F,F,F,F,F,F,F,F,F,F,F,F,F,F,F,F,F,F,F] (by kernel_rfl) rfl rfl ⟨(uF BK420.out 0).trans rfl, (uF BK420.out 1).trans rfl, (uF BK420.out 2).trans rfl, (uF BK420.out 3).trans rfl, (uF BK428.out 0).trans rfl, (uF BK428.out 1).trans rfl, (uF BK428.out 2).trans rfl, (uF BK428.out 3).trans rfl, (uF BK437.out 0).trans rfl, (uF BK437.out 1).trans rfl, (uF BK437.out 2).trans rfl, (uF BK437.out 3).trans rfl, (uF BK446.out 0).trans rfl, (uF BK446.out 1).trans rfl, (uF BK446.out 2).trans rfl, (uF BK446.out 3).trans rfl, (uF BK412.out 0).trans rfl, (uF BK412.out 1).trans rfl, (uF BK412.out 2).trans rfl, (uF BK412.out 3).trans rfl⟩ (fun hHeld => ?_); refine with_tabW laws_FnBeltEnters.tab8 laws_FnBeltEnters.bits8 (fun HT_ HW_ => ?_)
         generalize w55.drew = w56 at HO409 HO418 HO426 HO434 HO443 BK412 BK420 BK428 BK437 BK446 HB HO409 HO418 HO426 HO434 HO443 hHeld ⊢
         refine pu 0 (some 50) #[T,F,F,F,F,F,F,F,F,F,F,F,F,F,F,F,F,F,F,F,F,F,F,F,F,F,F,F,F,F,F,F,F,F,F,F,F,F,F] HT_ ?_
         refine pu 1 (some 51) #[T,T,F,F,F,F,F,F,F,F,F,F,F,F,F,F,F,F,F,F,F,F,F,F,F,F,F,F,F,F,F,F,F,F,F,F,F,F,F] HT_ ?_
         refine pu 2 (some 52) #[T,T,T,F,F,F,F,F,F,F,F,F,F,F,F,F,F,F,F,F,F,F,F,F,F,F,F,F,F,F,F,F,F,F,F,F,F,F,F] HT_ ?_
         refine pu 3 (some 53) #[T,T,T,T,F,F,F,F,F,F,F,F,F,F,F,F,F,F,F,F,F,F,F,F,F,F,F,F,F,F,F,F,F,F,F,F,F,F,F] HT_ ?_
         refine tk 4 (some 54) #[T,T,T,T,T,F,F,F,F,F,F,F,F,F,F,F,F,F,F,F,F,F,F,F,F,F,F,F,F,F,F,F,F,F,F,F,F,F,F] HT_ HW_ hHeld ?_
         refine tk 5 (some 55) #[T,T,T,T,T,T,F,F,F,F,F,F,F,F,F,F,F,F,F,F,F,F,F,F,F,F,F,F,F,F,F,F,F,F,F,F,F,F,F] HT_ HW_ hHeld ?_
         refine one_ (i := 6) (N := some 56) #[T,T,T,T,T,T,T,F,F,F,F,F,F,F,F,F,F,F,F,F,F,F,F,F,F,F,F,F,F,F,F,F,F,F,F,F,F,F,F] rfl rfl (one_of HT_.out (by kernel_rfl)) (by decide) (fun K hK => ?_)
         refine goes_ Try.func43 (by kernel_rfl) rfl #[.agg #[.int .i64 t413, .int .i64 t414, .bool t415, .slice Ao18 t416.length co18], .agg #[.int .i64 t421, .int .i64 t422, .bool t423, .slice Ao25 t424.length co25]] (by rfl) rfl rfl (by (try simp only [List.map_toArray, List.map_cons, List.map_nil]); first | done | rfl | (simp only [List.length_drop, List.length_take]; rfl)) ?_
         with_reducible refine (laws_sameBelt.calls k t413 t414 t415 _ _ t416 t421 t422 t423 _ _ t424 true _ ?side1 ?side2 ?side3 ?side4 A44.out).mono ?_
         (case side1 => exact pc ((Kd.R_reads' HO418.out).2.2))
         (case side2 => exact (Kd.R_reads' HO418.out).2.1)
         (case side3 => exact pc ((Kd.R_reads' HO426.out).2.2))
         (case side4 => exact (Kd.R_reads' HO426.out).2.1)
         rintro e w57 ⟨rfl, hb⟩
         refine ⟨_, rfl, ?_⟩
         replace HO409 := uD (Kd.R_below (pr HO409) hb)
         replace HO418 := uD (Kd.R_below (pr HO418) hb)
         replace HO426 := uD (Kd.R_below (pr HO426) hb)
         replace HO434 := uD (Kd.Q_below (pq HO434) hb)
         replace HO443 := uD (Kd.R_below (pr HO443) hb)
         replace BK412 := uD (blk_below (pk BK412) hb)
         replace BK420 := uD (blk_below (pk BK420) hb)
         replace BK428 := uD (blk_below (pk BK428) hb)
         replace BK437 := uD (blk_below (pk BK437) hb)
         replace BK446 := uD (blk_below (pk BK446) hb)
         replace HB := uD (uO (pb HB) hb)
         (try clear hb)
         (try clear hb2)
         (try clear hk)
         (try clear hi)
         refine hK.out _ _ ⟨(uF BK420.out 0).trans rfl, (uF BK420.out 1).trans rfl, (uF BK420.out 2).trans rfl, (uF BK420.out 3).trans rfl, (uF BK428.out 0).trans rfl, (uF BK428.out 1).trans rfl, (uF BK428.out 2).trans rfl, (uF BK428.out 3).trans rfl, (uF BK437.out 0).trans rfl, (uF BK437.out 1).trans rfl, (uF BK437.out 2).trans rfl, (uF BK437.out 3).trans rfl, (uF BK446.out 0).trans rfl, (uF BK446.out 1).trans rfl, (uF BK446.out 2).trans rfl, (uF BK446.out 3).trans rfl, (uF BK412.out 0).trans rfl, (uF BK412.out 1).trans rfl, (uF BK412.out 2).trans rfl, (uF BK412.out 3).trans rfl⟩ (fun hHeld => ?_)
         clear hK K
         refine norm_ (a' := ?_) ?_ ?_
         rotate_left
         ·show uc _ (some 56) _ = _
          simp only [uc, uA, uB, uC, uZ, ua]
          rfl
         refine pu 7 (some 57) #[T,T,T,T,T,T,T,T,F,F,F,F,F,F,F,F,F,F,F,F,F,F,F,F,F,F,F,F,F,F,F,F,F,F,F,F,F,F,F] HT_ ?_
         refine pu 8 (some 58) #[T,T,T,T,T,T,T,T,T,F,F,F,F,F,F,F,F,F,F,F,F,F,F,F,F,F,F,F,F,F,F,F,F,F,F,F,F,F,F] HT_ ?_
         refine pu 9 (some 59) #[T,T,T,T,T,T,T,T,T,T,F,F,F,F,F,F,F,F,F,F,F,F,F,F,F,F,F,F,F,F,F,F,F,F,F,F,F,F,F] HT_ ?_
         refine pu 10 (some 60) #[T,T,T,T,T,T,T,T,T,T,T,F,F,F,F,F,F,F,F,F,F,F,F,F,F,F,F,F,F,F,F,F,F,F,F,F,F,F,F] HT_ ?_
         refine pu 11 (some 61) #[T,T,T,T,T,T,T,T,T,T,T,T,F,F,F,F,F,F,F,F,F,F,F,F,F,F,F,F,F,F,F,F,F,F,F,F,F,F,F] HT_ ?_
         refine pu 12 (some 62) #[T,T,T,T,T,T,T,T,T,T,T,T,T,F,F,F,F,F,F,F,F,F,F,F,F,F,F,F,F,F,F,F,F,F,F,F,F,F,F] HT_ ?_
         refine pu 13 (some 63) #[T,T,T,T,T,T,T,T,T,T,T,T,T,T,F,F,F,F,F,F,F,F,F,F,F,F,F,F,F,F,F,F,F,F,F,F,F,F,F] HT_ ?_
         refine pu 14 (some 64) #[T,T,T,T,T,T,T,T,T,T,T,T,T,T,T,F,F,F,F,F,F,F,F,F,F,F,F,F,F,F,F,F,F,F,F,F,F,F,F] HT_ ?_
         refine pu 15 (some 65) #[T,T,T,T,T,T,T,T,T,T,T,T,T,T,T,T,F,F,F,F,F,F,F,F,F,F,F,F,F,F,F,F,F,F,F,F,F,F,F] HT_ ?_
         refine pu 16 (some 66) #[T,T,T,T,T,T,T,T,T,T,T,T,T,T,T,T,T,F,F,F,F,F,F,F,F,F,F,F,F,F,F,F,F,F,F,F,F,F,F] HT_ ?_
         refine pu 17 (some 67) #[T,T,T,T,T,T,T,T,T,T,T,T,T,T,T,T,T,T,F,F,F,F,F,F,F,F,F,F,F,F,F,F,F,F,F,F,F,F,F] HT_ ?_
         refine pu 18 (some 68) #[T,T,T,T,T,T,T,T,T,T,T,T,T,T,T,T,T,T,T,F,F,F,F,F,F,F,F,F,F,F,F,F,F,F,F,F,F,F,F] HT_ ?_
         refine pu 19 (some 69) #[T,T,T,T,T,T,T,T,T,T,T,T,T,T,T,T,T,T,T,T,F,F,F,F,F,F,F,F,F,F,F,F,F,F,F,F,F,F,F] HT_ ?_
         refine tk 20 (some 70) #[T,T,T,T,T,T,T,T,T,T,T,T,T,T,T,T,T,T,T,T,T,F,F,F,F,F,F,F,F,F,F,F,F,F,F,F,F,F,F] HT_ HW_ hHeld ?_
         refine tk 21 (some 71) #[T,T,T,T,T,T,T,T,T,T,T,T,T,T,T,T,T,T,T,T,T,T,F,F,F,F,F,F,F,F,F,F,F,F,F,F,F,F,F] HT_ HW_ hHeld ?_
         refine one_ (i := 22) (N := some 72) #[T,T,T,T,T,T,T,T,T,T,T,T,T,T,T,T,T,T,T,T,T,T,T,F,F,F,F,F,F,F,F,F,F,F,F,F,F,F,F] rfl rfl (one_of HT_.out (by kernel_rfl)) (by decide) (fun K hK => ?_)
         refine goes_ Try.func43 (by kernel_rfl) rfl #[.agg #[.int .i64 t429, .int .i64 t430, .bool t431, .slice Ao33 t432.length co33], .agg #[.int .i64 t438, .int .i64 t439, .bool t440, .slice Ao42 t441.length co42]] (by rfl) rfl rfl (by (try simp only [List.map_toArray, List.map_cons, List.map_nil]); first | done | rfl | (simp only [List.length_drop, List.length_take]; rfl)) ?_
         with_reducible refine (laws_sameBelt.calls k t429 t430 t431 _ _ t432 t438 t439 t440 _ _ t441 true _ ?side1 ?side2 ?side3 ?side4 A48.out).mono ?_
         (case side1 => exact pc ((Kd.Q_reads' HO434.out).2.2))
         (case side2 => exact (Kd.Q_reads' HO434.out).2.1)
         (case side3 => exact pc ((Kd.R_reads' HO443.out).2.2))
         (case side4 => exact (Kd.R_reads' HO443.out).2.1)
         rintro e w58 ⟨rfl, hb⟩
         refine ⟨_, rfl, ?_⟩
         replace HO409 := uD (Kd.R_below (pr HO409) hb)
         replace HO418 := uD (Kd.R_below (pr HO418) hb)
         replace HO426 := uD (Kd.R_below (pr HO426) hb)
         replace HO434 := uD (Kd.Q_below (pq HO434) hb)
         replace HO443 := uD (Kd.R_below (pr HO443) hb)
         replace BK412 := uD (blk_below (pk BK412) hb)
         replace BK420 := uD (blk_below (pk BK420) hb)
         replace BK428 := uD (blk_below (pk BK428) hb)
         replace BK437 := uD (blk_below (pk BK437) hb)
         replace BK446 := uD (blk_below (pk BK446) hb)
         replace HB := uD (uO (pb HB) hb)
         (try clear hb)
         (try clear hb2)
         (try clear hk)
         (try clear hi)
         refine hK.out _ _ ⟨(uF BK420.out 0).trans rfl, (uF BK420.out 1).trans rfl, (uF BK420.out 2).trans rfl, (uF BK420.out 3).trans rfl, (uF BK428.out 0).trans rfl, (uF BK428.out 1).trans rfl, (uF BK428.out 2).trans rfl, (uF BK428.out 3).trans rfl, (uF BK437.out 0).trans rfl, (uF BK437.out 1).trans rfl, (uF BK437.out 2).trans rfl, (uF BK437.out 3).trans rfl, (uF BK446.out 0).trans rfl, (uF BK446.out 1).trans rfl, (uF BK446.out 2).trans rfl, (uF BK446.out 3).trans rfl, (uF BK412.out 0).trans rfl, (uF BK412.out 1).trans rfl, (uF BK412.out 2).trans rfl, (uF BK412.out 3).trans rfl⟩ (fun hHeld => ?_)
         clear hK K
         refine norm_ (a' := ?_) ?_ ?_
         rotate_left
         ·show uc _ (some 72) _ = _
          simp only [uc, uA, uB, uC, uZ, ua]
          rfl
         refine pu 23 (some 73) #[T,T,T,T,T,T,T,T,T,T,T,T,T,T,T,T,T,T,T,T,T,T,T,T,F,F,F,F,F,F,F,F,F,F,F,F,F,F,F] HT_ ?_
         refine pu 24 (some 74) #[T,T,T,T,T,T,T,T,T,T,T,T,T,T,T,T,T,T,T,T,T,T,T,T,T,F,F,F,F,F,F,F,F,F,F,F,F,F,F] HT_ ?_
         refine pu 25 (some 75) #[T,T,T,T,T,T,T,T,T,T,T,T,T,T,T,T,T,T,T,T,T,T,T,T,T,T,F,F,F,F,F,F,F,F,F,F,F,F,F] HT_ ?_
         refine tk 26 (some 76) #[T,T,T,T,T,T,T,T,T,T,T,T,T,T,T,T,T,T,T,T,T,T,T,T,T,T,T,F,F,F,F,F,F,F,F,F,F,F,F] HT_ HW_ hHeld ?_
         refine tk 28 (some 78) #[T,T,T,T,T,T,T,T,T,T,T,T,T,T,T,T,T,T,T,T,T,T,T,T,T,T,T,F,T,F,F,F,F,F,F,F,F,F,F] HT_ HW_ hHeld ?_
         refine one_ (i := 27) (N := some 77) #[T,T,T,T,T,T,T,T,T,T,T,T,T,T,T,T,T,T,T,T,T,T,T,T,T,T,T,T,T,F,F,F,F,F,F,F,F,F,F] rfl rfl (one_of HT_.out (by kernel_rfl)) (by decide) (fun K hK => ?_)
         refine goes_ Try.func25 (by kernel_rfl) rfl #[.agg #[.int .i64 t404, .int .i64 t405, .bool t406, .slice Ao13 t407.length co13]] (by rfl) rfl rfl (by (try simp only [List.map_toArray, List.map_cons, List.map_nil]); first | done | rfl | (simp only [List.length_drop, List.length_take]; rfl)) ?_
         with_reducible refine (impl_Backlog.calls k t404 t405 t406 _ _ t407 t449 _ ?side1 ?side2 A50.out).mono ?_
         (case side1 => exact pc ((Kd.R_reads' HO409.out).2.2))
         (case side2 => exact (Kd.R_reads' HO409.out).2.1)
         rintro e w59 ⟨rfl, hb⟩
         refine ⟨_, rfl, ?_⟩
         replace HO409 := uD (Kd.R_below (pr HO409) hb)
         replace HO418 := uD (Kd.R_below (pr HO418) hb)
         replace HO426 := uD (Kd.R_below (pr HO426) hb)
         replace HO434 := uD (Kd.Q_below (pq HO434) hb)
         replace HO443 := uD (Kd.R_below (pr HO443) hb)
         replace BK412 := uD (blk_below (pk BK412) hb)
         replace BK420 := uD (blk_below (pk BK420) hb)
         replace BK428 := uD (blk_below (pk BK428) hb)
         replace BK437 := uD (blk_below (pk BK437) hb)
         replace BK446 := uD (blk_below (pk BK446) hb)
         replace HB := uD (uO (pb HB) hb)
         (try clear hb)
         (try clear hb2)
         (try clear hk)
         (try clear hi)
         refine hK.out _ _ ⟨(uF BK420.out 0).trans rfl, (uF BK420.out 1).trans rfl, (uF BK420.out 2).trans rfl, (uF BK420.out 3).trans rfl, (uF BK428.out 0).trans rfl, (uF BK428.out 1).trans rfl, (uF BK428.out 2).trans rfl, (uF BK428.out 3).trans rfl, (uF BK437.out 0).trans rfl, (uF BK437.out 1).trans rfl, (uF BK437.out 2).trans rfl, (uF BK437.out 3).trans rfl, (uF BK446.out 0).trans rfl, (uF BK446.out 1).trans rfl, (uF BK446.out 2).trans rfl, (uF BK446.out 3).trans rfl, (uF BK412.out 0).trans rfl, (uF BK412.out 1).trans rfl, (uF BK412.out 2).trans rfl, (uF BK412.out 3).trans rfl⟩ (fun hHeld => ?_)
         clear hK K
         refine norm_ (a' := ?_) ?_ ?_
         rotate_left
         ·show uc _ (some 77) _ = _
          simp only [uc, uA, uB, uC, uZ, ua]
          rfl
         refine one_ (i := 29) (N := some 79) #[T,T,T,T,T,T,T,T,T,T,T,T,T,T,T,T,T,T,T,T,T,T,T,T,T,T,T,T,T,T,F,F,F,F,F,F,F,F,F] rfl rfl (one_of HT_.out (by kernel_rfl)) (by decide) (fun K hK => ?_)
         refine goes_ Try.func24 (by kernel_rfl) rfl #[.agg #[.int .i64 t404, .int .i64 t405, .bool t406, .slice Ao13 t407.length co13]] (by rfl) rfl rfl (by (try simp only [List.map_toArray, List.map_cons, List.map_nil]); first | done | rfl | (simp only [List.length_drop, List.length_take]; rfl)) ?_
         with_reducible refine (spec_Backlog.calls k t404 t405 t406 _ _ t407 t450 _ ?side1 ?side2 A51.out).mono ?_
         (case side1 => exact pc ((Kd.R_reads' HO409.out).2.2))
         (case side2 => exact (Kd.R_reads' HO409.out).2.1)
         rintro e w60 ⟨rfl, hb⟩
         refine ⟨_, rfl, ?_⟩
         replace HO409 := uD (Kd.R_below (pr HO409) hb)
         replace HO418 := uD (Kd.R_below (pr HO418) hb)
         replace HO426 := uD (Kd.R_below (pr HO426) hb)
         replace HO434 := uD (Kd.Q_below (pq HO434) hb)
         replace HO443 := uD (Kd.R_below (pr HO443) hb)
         replace BK412 := uD (blk_below (pk BK412) hb)
         replace BK420 := uD (blk_below (pk BK420) hb)
         replace BK428 := uD (blk_below (pk BK428) hb)
         replace BK437 := uD (blk_below (pk BK437) hb)
         replace BK446 := uD (blk_below (pk BK446) hb)
         replace HB := uD (uO (pb HB) hb)
         (try clear hb)
         (try clear hb2)
         (try clear hk)
         (try clear hi)
         refine hK.out _ _ ⟨(uF BK420.out 0).trans rfl, (uF BK420.out 1).trans rfl, (uF BK420.out 2).trans rfl, (uF BK420.out 3).trans rfl, (uF BK428.out 0).trans rfl, (uF BK428.out 1).trans rfl, (uF BK428.out 2).trans rfl, (uF BK428.out 3).trans rfl, (uF BK437.out 0).trans rfl, (uF BK437.out 1).trans rfl, (uF BK437.out 2).trans rfl, (uF BK437.out 3).trans rfl, (uF BK446.out 0).trans rfl, (uF BK446.out 1).trans rfl, (uF BK446.out 2).trans rfl, (uF BK446.out 3).trans rfl, (uF BK412.out 0).trans rfl, (uF BK412.out 1).trans rfl, (uF BK412.out 2).trans rfl, (uF BK412.out 3).trans rfl⟩ (fun hHeld => ?_)
         clear hK K
         refine norm_ (a' := ?_) ?_ ?_
         rotate_left
         ·show uc _ (some 79) _ = _
          simp only [uc, uA, uB, uC, uZ, ua]
          rfl
         refine pu 30 (some 80) #[T,T,T,T,T,T,T,T,T,T,T,T,T,T,T,T,T,T,T,T,T,T,T,T,T,T,T,T,T,T,T,F,F,F,F,F,F,F,F] HT_ ?_
         refine pu 31 (some 81) #[T,T,T,T,T,T,T,T,T,T,T,T,T,T,T,T,T,T,T,T,T,T,T,T,T,T,T,T,T,T,T,T,F,F,F,F,F,F,F] HT_ ?_
         refine pu 32 (some 82) #[T,T,T,T,T,T,T,T,T,T,T,T,T,T,T,T,T,T,T,T,T,T,T,T,T,T,T,T,T,T,T,T,T,F,F,F,F,F,F] HT_ ?_
         refine tk 33 (some 83) #[T,T,T,T,T,T,T,T,T,T,T,T,T,T,T,T,T,T,T,T,T,T,T,T,T,T,T,T,T,T,T,T,T,T,F,F,F,F,F] HT_ HW_ hHeld ?_
         refine tk 35 (some 85) #[T,T,T,T,T,T,T,T,T,T,T,T,T,T,T,T,T,T,T,T,T,T,T,T,T,T,T,T,T,T,T,T,T,T,F,T,F,F,F] HT_ HW_ hHeld ?_
         refine one_ (i := 34) (N := some 84) #[T,T,T,T,T,T,T,T,T,T,T,T,T,T,T,T,T,T,T,T,T,T,T,T,T,T,T,T,T,T,T,T,T,T,T,T,F,F,F] rfl rfl (one_of HT_.out (by kernel_rfl)) (by decide) (fun K hK => ?_)
         refine goes_ Try.func21 (by kernel_rfl) rfl #[.agg #[.int .i64 t404, .int .i64 t405, .bool t406, .slice Ao13 t407.length co13]] (by rfl) rfl rfl (by (try simp only [List.map_toArray, List.map_cons, List.map_nil]); first | done | rfl | (simp only [List.length_drop, List.length_take]; rfl)) ?_
         with_reducible refine (impl_FreeBehind.calls k t404 t405 t406 _ _ t407 t451 _ ?side1 ?side2 A53.out).mono ?_
         (case side1 => exact pc ((Kd.R_reads' HO409.out).2.2))
         (case side2 => exact (Kd.R_reads' HO409.out).2.1)
         rintro e w61 ⟨rfl, hb⟩
         refine ⟨_, rfl, ?_⟩
         replace HO409 := uD (Kd.R_below (pr HO409) hb)
         replace HO418 := uD (Kd.R_below (pr HO418) hb)
         replace HO426 := uD (Kd.R_below (pr HO426) hb)
         replace HO434 := uD (Kd.Q_below (pq HO434) hb)
         replace HO443 := uD (Kd.R_below (pr HO443) hb)
         replace BK412 := uD (blk_below (pk BK412) hb)
         replace BK420 := uD (blk_below (pk BK420) hb)
         replace BK428 := uD (blk_below (pk BK428) hb)
         replace BK437 := uD (blk_below (pk BK437) hb)
         replace BK446 := uD (blk_below (pk BK446) hb)
         replace HB := uD (uO (pb HB) hb)
         (try clear hb)
         (try clear hb2)
         (try clear hk)
         (try clear hi)
         refine hK.out _ _ ⟨(uF BK420.out 0).trans rfl, (uF BK420.out 1).trans rfl, (uF BK420.out 2).trans rfl, (uF BK420.out 3).trans rfl, (uF BK428.out 0).trans rfl, (uF BK428.out 1).trans rfl, (uF BK428.out 2).trans rfl, (uF BK428.out 3).trans rfl, (uF BK437.out 0).trans rfl, (uF BK437.out 1).trans rfl, (uF BK437.out 2).trans rfl, (uF BK437.out 3).trans rfl, (uF BK446.out 0).trans rfl, (uF BK446.out 1).trans rfl, (uF BK446.out 2).trans rfl, (uF BK446.out 3).trans rfl, (uF BK412.out 0).trans rfl, (uF BK412.out 1).trans rfl, (uF BK412.out 2).trans rfl, (uF BK412.out 3).trans rfl⟩ (fun hHeld => ?_)
         clear hK K
         refine norm_ (a' := ?_) ?_ ?_
         rotate_left
         ·show uc _ (some 84) _ = _
          simp only [uc, uA, uB, uC, uZ, ua]
          rfl
         refine one_ (i := 36) (N := some 86) #[T,T,T,T,T,T,T,T,T,T,T,T,T,T,T,T,T,T,T,T,T,T,T,T,T,T,T,T,T,T,T,T,T,T,T,T,T,F,F] rfl rfl (one_of HT_.out (by kernel_rfl)) (by decide) (fun K hK => ?_)
         refine goes_ Try.func20 (by kernel_rfl) rfl #[.agg #[.int .i64 t404, .int .i64 t405, .bool t406, .slice Ao13 t407.length co13]] (by rfl) rfl rfl (by (try simp only [List.map_toArray, List.map_cons, List.map_nil]); first | done | rfl | (simp only [List.length_drop, List.length_take]; rfl)) ?_
         with_reducible refine (spec_FreeBehind.calls k t404 t405 t406 _ _ t407 t452 _ ?side1 ?side2 A54.out).mono ?_
         (case side1 => exact pc ((Kd.R_reads' HO409.out).2.2))
         (case side2 => exact (Kd.R_reads' HO409.out).2.1)
         rintro e w62 ⟨rfl, hb⟩
         refine ⟨_, rfl, ?_⟩
         replace HO409 := uD (Kd.R_below (pr HO409) hb)
         replace HO418 := uD (Kd.R_below (pr HO418) hb)
         replace HO426 := uD (Kd.R_below (pr HO426) hb)
         replace HO434 := uD (Kd.Q_below (pq HO434) hb)
         replace HO443 := uD (Kd.R_below (pr HO443) hb)
         replace BK412 := uD (blk_below (pk BK412) hb)
         replace BK420 := uD (blk_below (pk BK420) hb)
         replace BK428 := uD (blk_below (pk BK428) hb)
         replace BK437 := uD (blk_below (pk BK437) hb)
         replace BK446 := uD (blk_below (pk BK446) hb)
         replace HB := uD (uO (pb HB) hb)
         (try clear hb)
         (try clear hb2)
         (try clear hk)
         (try clear hi)
         refine hK.out _ _ ⟨(uF BK420.out 0).trans rfl, (uF BK420.out 1).trans rfl, (uF BK420.out 2).trans rfl, (uF BK420.out 3).trans rfl, (uF BK428.out 0).trans rfl, (uF BK428.out 1).trans rfl, (uF BK428.out 2).trans rfl, (uF BK428.out 3).trans rfl, (uF BK437.out 0).trans rfl, (uF BK437.out 1).trans rfl, (uF BK437.out 2).trans rfl, (uF BK437.out 3).trans rfl, (uF BK446.out 0).trans rfl, (uF BK446.out 1).trans rfl, (uF BK446.out 2).trans rfl, (uF BK446.out 3).trans rfl, (uF BK412.out 0).trans rfl, (uF BK412.out 1).trans rfl, (uF BK412.out 2).trans rfl, (uF BK412.out 3).trans rfl⟩ (fun hHeld => ?_)
         clear hK K
         refine norm_ (a' := ?_) ?_ ?_
         rotate_left
         ·show uc _ (some 86) _ = _
          simp only [uc, uA, uB, uC, uZ, ua]
          rfl
         refine pu 37 (some 87) #[T,T,T,T,T,T,T,T,T,T,T,T,T,T,T,T,T,T,T,T,T,T,T,T,T,T,T,T,T,T,T,T,T,T,T,T,T,T,F] HT_ ?_
         refine pu 38 (some 88) #[T,T,T,T,T,T,T,T,T,T,T,T,T,T,T,T,T,T,T,T,T,T,T,T,T,T,T,T,T,T,T,T,T,T,T,T,T,T,T] HT_ ?_
         refine done_ (done_of HT_.out (by kernel_rfl)) ?_
         try go_wp2
         go_meet
         case rel => exact ⟨_, ((t451 != t452)), (by first | rfl | (simp; done) | (simp [*]; done)), H', ⟨by first | omega | exact Nat.le_refl _⟩, ⟨Kd.Q_of_R (pr HO409)⟩, ⟨Kd.Q_of_R (pr HO418)⟩, ⟨Kd.Q_of_R (pr HO426)⟩, ⟨by (with_reducible repeat (first | apply Kd.Q_alloc | apply Kd.Q_drewN | apply Kd.Q_drew)); exact HO434.out⟩, ⟨Kd.Q_of_R (pr HO443)⟩, ⟨by (with_reducible repeat first|apply uH|apply uJ|apply uG); exact BK412.out⟩, ⟨by (with_reducible repeat first|apply uH|apply uJ|apply uG); exact BK420.out⟩, ⟨by (with_reducible repeat first|apply uH|apply uJ|apply uG); exact BK428.out⟩, ⟨by (with_reducible repeat first|apply uH|apply uJ|apply uG); exact BK437.out⟩, ⟨by (with_reducible repeat first|apply uH|apply uJ|apply uG); exact BK446.out⟩, ⟨pb HB⟩⟩
        ·rw [if_neg c52] at H
         have c52b0 : (t449 == t450) = false := beq_eq_false_iff_ne.mpr c52
         have c52b1 : (t449 != t450) = true := bne_iff_ne.mpr c52
         exact absurd H (by cases k <;> simp [laws_FnBeltEnters.j0])
       ·replace c49 := Bool.eq_false_iff.mpr c49
        subst c49
        have H1 : (laws_FnBeltEnters.j0 k t410 t411 t419 true t404 t405 t406 t407 t413 t414 t415 t416) = some true := by rw [if_neg (show ¬ (false = true) by decide)] at H; first | done | exact H
        clear H
        have H := H1
        clear H1
        exact absurd H (by cases k <;> simp [laws_FnBeltEnters.j0])
      ·rw [if_neg c47] at H
       have c47b0 : (t435 == t444) = false := beq_eq_false_iff_ne.mpr c47
       have c47b1 : (t435 != t444) = true := bne_iff_ne.mpr c47
       exact absurd H (by cases k <;> simp [laws_FnBeltEnters.j0])
    ·replace c45 := Bool.eq_false_iff.mpr c45
     subst c45
     have H1 : (laws_FnBeltEnters.j0 k t410 t411 t419 true t404 t405 t406 t407 t413 t414 t415 t416) = some true := by rw [if_neg (show ¬ (false = true) by decide)] at H; first | done | exact H
     clear H
     have H := H1
     clear H1
     exact absurd H (by cases k <;> simp [laws_FnBeltEnters.j0])
  case rest =>
   clear HC9
   try clear c2
   try clear p2
   try clear c4
   try clear c5
   try clear c20
   try clear c21
   try clear c24
   try clear c25
   try clear c43
   try clear c43b0
   try clear c43b1
   try clear c43b2
   try clear c45
   try clear c46
   try clear c46b0
   try clear c46b1
   try clear c46b2
   try clear c47
   try clear c47b0
   try clear c47b1
   try clear c49
   try clear c52
   try clear c52b0
   try clear c52b1
   obtain ⟨kq, x88_8, rfl, HA, HJ8, HO_413003, HO_421003, HO_429003, HO_438003, HO_447003, BK412, BK420, BK428, BK437, BK446, HB⟩ := hcut
   cases kq with
   | zero => exact absurd HA.out (by simp [laws_FnBeltEnters.j0])
   | succ kj8 =>
    have H := HA.out
    clear HA
    simp only [laws_FnBeltEnters.j0] at H
    by_cases c63 : x88_8 = true
    ·subst c63
     have H1 : (some false) = some true := by rw [if_pos rfl] at H; first | done | exact H
     clear H
     have H := H1
     clear H1
     exact absurd H (by simp)
    ·replace c63 := Bool.eq_false_iff.mpr c63
     subst c63
     have H1 : (if t419 = true then ((impl_BeltOk.f kj8 t413 t414 t415 t416).bind fun t454 => (if t454 = true then ((impl_CoverAt.f kj8 t413 t414 t415 t416 1).bind fun t455 => (if t455 = t410 then ((impl_CoverAt.f kj8 t413 t414 t415 t416 t411).bind fun t456 => (if t456 = t410 then ((impl_CoverAt.f kj8 t413 t414 t415 t416 (wrap64 (t411 + 1))).bind fun t457 => ((impl_CoverAt.f kj8 t404 t405 t406 t407 (wrap64 (t411 + 1))).bind fun t458 => (if t457 = t458 then ((impl_CoverAt.f kj8 t413 t414 t415 t416 0).bind fun t459 => (some (t459 == 0))) else (some false)))) else (some false))) else (some false))) else (some false))) else ((laws_sameBelt.f kj8 t413 t414 t415 t416 t404 t405 t406 t407).bind fun t453 => (some t453))) = some true := by rw [if_neg (show ¬ (false = true) by decide)] at H; first | done | exact H
     clear H
     have H := H1
     clear H1
     by_cases c64 : t419 = true
     ·subst c64
      have H1 : ((impl_BeltOk.f kj8 t413 t414 t415 t416).bind fun t454 => (if t454 = true then ((impl_CoverAt.f kj8 t413 t414 t415 t416 1).bind fun t455 => (if t455 = t410 then ((impl_CoverAt.f kj8 t413 t414 t415 t416 t411).bind fun t456 => (if t456 = t410 then ((impl_CoverAt.f kj8 t413 t414 t415 t416 (wrap64 (t411 + 1))).bind fun t457 => ((impl_CoverAt.f kj8 t404 t405 t406 t407 (wrap64 (t411 + 1))).bind fun t458 => (if t457 = t458 then ((impl_CoverAt.f kj8 t413 t414 t415 t416 0).bind fun t459 => (some (t459 == 0))) else (some false)))) else (some false))) else (some false))) else (some false))) = some true := by rw [if_pos rfl] at H; first | done | exact H
      clear H
      have H := H1
      clear H1
      replace H := Option.bind_eq_some_iff.mp H
      obtain ⟨t454, A650, H⟩ := H
      replace H : (if t454 = true then ((impl_CoverAt.f kj8 t413 t414 t415 t416 1).bind fun t455 => (if t455 = t410 then ((impl_CoverAt.f kj8 t413 t414 t415 t416 t411).bind fun t456 => (if t456 = t410 then ((impl_CoverAt.f kj8 t413 t414 t415 t416 (wrap64 (t411 + 1))).bind fun t457 => ((impl_CoverAt.f kj8 t404 t405 t406 t407 (wrap64 (t411 + 1))).bind fun t458 => (if t457 = t458 then ((impl_CoverAt.f kj8 t413 t414 t415 t416 0).bind fun t459 => (some (t459 == 0))) else (some false)))) else (some false))) else (some false))) else (some false)) = some true := H
      have A65 := uD A650
      clear A650
      by_cases c66 : t454 = true
      ·subst c66
       have H1 : ((impl_CoverAt.f kj8 t413 t414 t415 t416 1).bind fun t455 => (if t455 = t410 then ((impl_CoverAt.f kj8 t413 t414 t415 t416 t411).bind fun t456 => (if t456 = t410 then ((impl_CoverAt.f kj8 t413 t414 t415 t416 (wrap64 (t411 + 1))).bind fun t457 => ((impl_CoverAt.f kj8 t404 t405 t406 t407 (wrap64 (t411 + 1))).bind fun t458 => (if t457 = t458 then ((impl_CoverAt.f kj8 t413 t414 t415 t416 0).bind fun t459 => (some (t459 == 0))) else (some false)))) else (some false))) else (some false))) = some true := by rw [if_pos rfl] at H; first | done | exact H
       clear H
       have H := H1
       clear H1
       replace H := Option.bind_eq_some_iff.mp H
       obtain ⟨t455, A670, H⟩ := H
       replace H : (if t455 = t410 then ((impl_CoverAt.f kj8 t413 t414 t415 t416 t411).bind fun t456 => (if t456 = t410 then ((impl_CoverAt.f kj8 t413 t414 t415 t416 (wrap64 (t411 + 1))).bind fun t457 => ((impl_CoverAt.f kj8 t404 t405 t406 t407 (wrap64 (t411 + 1))).bind fun t458 => (if t457 = t458 then ((impl_CoverAt.f kj8 t413 t414 t415 t416 0).bind fun t459 => (some (t459 == 0))) else (some false)))) else (some false))) else (some false)) = some true := H
       have A67 := uD A670
       clear A670
       by_cases c68 : t455 = t410
       ·rw [if_pos c68] at H
        have c68b0 : (t455 == t410) = true := beq_iff_eq.mpr c68
        have c68b1 : (t455 != t410) = false := bne_eq_false_iff_eq.mpr c68
        clear c68
        replace H := Option.bind_eq_some_iff.mp H
        obtain ⟨t456, A690, H⟩ := H
        replace H : (if t456 = t410 then ((impl_CoverAt.f kj8 t413 t414 t415 t416 (wrap64 (t411 + 1))).bind fun t457 => ((impl_CoverAt.f kj8 t404 t405 t406 t407 (wrap64 (t411 + 1))).bind fun t458 => (if t457 = t458 then ((impl_CoverAt.f kj8 t413 t414 t415 t416 0).bind fun t459 => (some (t459 == 0))) else (some false)))) else (some false)) = some true := H
        have A69 := uD A690
        clear A690
        by_cases c70 : t456 = t410
        ·rw [if_pos c70] at H
         have c70b0 : (t456 == t410) = true := beq_iff_eq.mpr c70
         have c70b1 : (t456 != t410) = false := bne_eq_false_iff_eq.mpr c70
         clear c70
         replace H := Option.bind_eq_some_iff.mp H
         obtain ⟨t457, A710, H⟩ := H
         replace H : ((impl_CoverAt.f kj8 t404 t405 t406 t407 (wrap64 (t411 + 1))).bind fun t458 => (if t457 = t458 then ((impl_CoverAt.f kj8 t413 t414 t415 t416 0).bind fun t459 => (some (t459 == 0))) else (some false))) = some true := H
         have A71 := uD A710
         clear A710
         replace H := Option.bind_eq_some_iff.mp H
         obtain ⟨t458, A720, H⟩ := H
         replace H : (if t457 = t458 then ((impl_CoverAt.f kj8 t413 t414 t415 t416 0).bind fun t459 => (some (t459 == 0))) else (some false)) = some true := H
         have A72 := uD A720
         clear A720
         by_cases c73 : t457 = t458
         ·rw [if_pos c73] at H
          have c73b0 : (t457 == t458) = true := beq_iff_eq.mpr c73
          have c73b1 : (t457 != t458) = false := bne_eq_false_iff_eq.mpr c73
          clear c73
          replace H := Option.bind_eq_some_iff.mp H
          obtain ⟨t459, A740, H⟩ := H
          replace H : (some (t459 == 0)) = some true := H
          have A74 := uD A740
          clear A740
          have HT := Option.some.inj H
          clear H
          try go_wp2
          replace HO_413003 := uD (Kd.Q_drew HO_413003.out)
          replace HO_421003 := uD (Kd.Q_drew HO_421003.out)
          replace HO_429003 := uD (Kd.Q_drew HO_429003.out)
          replace HO_438003 := uD (Kd.Q_drew HO_438003.out)
          replace HO_447003 := uD (Kd.Q_drew HO_447003.out)
          replace BK412 := uD (uJ BK412.out)
          replace BK420 := uD (uJ BK420.out)
          replace BK428 := uD (uJ BK428.out)
          replace BK437 := uD (uJ BK437.out)
          replace BK446 := uD (uJ BK446.out)
          replace HB := uD (uK HB.out)
          refine start_ (n := 32) (S := fun w' => w'.cell? ⟨gb420, 0, none⟩ = some (.int .i64 t413) ∧ w'.cell? ⟨gb420, 1, none⟩ = some (.int .i64 t414) ∧ w'.cell? ⟨gb420, 2, none⟩ = some (.bool t415) ∧ w'.cell? ⟨gb420, 3, none⟩ = some (.slice Ao18 t416.length co18) ∧ w'.cell? ⟨gb412, 0, none⟩ = some (.int .i64 t404) ∧ w'.cell? ⟨gb412, 1, none⟩ = some (.int .i64 t405) ∧ w'.cell? ⟨gb412, 2, none⟩ = some (.bool t406) ∧ w'.cell? ⟨gb412, 3, none⟩ = some (.slice Ao13 t407.length co13)) (ds := []) #[F,F,F,F,F,F,F,F,F,F,F,F,F,F,F,F,F,F,F,F,F,F,F,F,F,F,F,F,F,F,F,F] (by kernel_rfl) rfl rfl ⟨(uF BK420.out 0).trans rfl, (uF BK420.out 1).trans rfl, (uF BK420.out 2).trans rfl, (uF BK420.out 3).trans rfl, (uF BK412.out 0).trans rfl, (uF BK412.out 1).trans rfl, (uF BK412.out 2).trans rfl, (uF BK412.out 3).trans rfl⟩ (fun hHeld => ?_); refine with_tabW laws_FnBeltEnters.tab12 laws_FnBeltEnters.bits12 (fun HT_ HW_ => ?_)
          generalize wc.drew = w75 at HO_413003 HO_421003 HO_429003 HO_438003 HO_447003 BK412 BK420 BK428 BK437 BK446 HB hHeld ⊢
          refine tk 0 (some 94) #[T,F,F,F,F,F,F,F,F,F,F,F,F,F,F,F,F,F,F,F,F,F,F,F,F,F,F,F,F,F,F,F] HT_ HW_ hHeld ?_
          refine one_ (i := 1) (N := some 95) #[T,T,F,F,F,F,F,F,F,F,F,F,F,F,F,F,F,F,F,F,F,F,F,F,F,F,F,F,F,F,F,F] rfl rfl (one_of HT_.out (by kernel_rfl)) (by decide) (fun K hK => ?_)
          refine goes_ Try.func18 (by kernel_rfl) rfl #[.agg #[.int .i64 t413, .int .i64 t414, .bool t415, .slice Ao18 t416.length co18]] (by rfl) rfl rfl (by (try simp only [List.map_toArray, List.map_cons, List.map_nil]); first | done | rfl | (simp only [List.length_drop, List.length_take]; rfl)) ?_
          with_reducible refine (impl_BeltOk.calls kj8 t413 t414 t415 _ _ t416 true _ ?side1 ?side2 A65.out).mono ?_
          (case side1 => exact pc ((Kd.Q_reads' HO_421003.out).2.2))
          (case side2 => exact (Kd.Q_reads' HO_421003.out).2.1)
          rintro e w76 ⟨rfl, hb⟩
          refine ⟨_, rfl, ?_⟩
          replace HO_413003 := uD (Kd.Q_below (pq HO_413003) hb)
          replace HO_421003 := uD (Kd.Q_below (pq HO_421003) hb)
          replace HO_429003 := uD (Kd.Q_below (pq HO_429003) hb)
          replace HO_438003 := uD (Kd.Q_below (pq HO_438003) hb)
          replace HO_447003 := uD (Kd.Q_below (pq HO_447003) hb)
          replace BK412 := uD (blk_below (pk BK412) hb)
          replace BK420 := uD (blk_below (pk BK420) hb)
          replace BK428 := uD (blk_below (pk BK428) hb)
          replace BK437 := uD (blk_below (pk BK437) hb)
          replace BK446 := uD (blk_below (pk BK446) hb)
          replace HB := uD (uO (pb HB) hb)
          (try clear hb)
          (try clear hb2)
          (try clear hk)
          (try clear hi)
          refine hK.out _ _ ⟨(uF BK420.out 0).trans rfl, (uF BK420.out 1).trans rfl, (uF BK420.out 2).trans rfl, (uF BK420.out 3).trans rfl, (uF BK412.out 0).trans rfl, (uF BK412.out 1).trans rfl, (uF BK412.out 2).trans rfl, (uF BK412.out 3).trans rfl⟩ (fun hHeld => ?_)
          clear hK K
          refine norm_ (a' := ?_) ?_ ?_
          rotate_left
          ·show uc _ (some 95) _ = _
           simp only [uc, uA, uB, uC, uZ, ua]
           rfl
          refine pu 2 (some 96) #[T,T,T,F,F,F,F,F,F,F,F,F,F,F,F,F,F,F,F,F,F,F,F,F,F,F,F,F,F,F,F,F] HT_ ?_
          refine pu 5 (some 99) #[T,T,T,F,F,T,F,F,F,F,F,F,F,F,F,F,F,F,F,F,F,F,F,F,F,F,F,F,F,F,F,F] HT_ ?_
          refine tk 3 (some 97) #[T,T,T,T,F,T,F,F,F,F,F,F,F,F,F,F,F,F,F,F,F,F,F,F,F,F,F,F,F,F,F,F] HT_ HW_ hHeld ?_
          refine one_ (i := 4) (N := some 98) #[T,T,T,T,T,T,F,F,F,F,F,F,F,F,F,F,F,F,F,F,F,F,F,F,F,F,F,F,F,F,F,F] rfl rfl (one_of HT_.out (by kernel_rfl)) (by decide) (fun K hK => ?_)
          refine goes_ Try.func23 (by kernel_rfl) rfl #[.agg #[.int .i64 t413, .int .i64 t414, .bool t415, .slice Ao18 t416.length co18], .int .i64 1] (by rfl) rfl rfl (by (try simp only [List.map_toArray, List.map_cons, List.map_nil]); first | done | rfl | (simp only [List.length_drop, List.length_take]; rfl)) ?_
          with_reducible refine (impl_CoverAt.calls kj8 t413 t414 t415 _ _ t416 1 t455 _ ?side1 ?side2 A67.out).mono ?_
          (case side1 => exact pc ((Kd.Q_reads' HO_421003.out).2.2))
          (case side2 => exact (Kd.Q_reads' HO_421003.out).2.1)
          rintro e w77 ⟨rfl, hb⟩
          refine ⟨_, rfl, ?_⟩
          replace HO_413003 := uD (Kd.Q_below (pq HO_413003) hb)
          replace HO_421003 := uD (Kd.Q_below (pq HO_421003) hb)
          replace HO_429003 := uD (Kd.Q_below (pq HO_429003) hb)
          replace HO_438003 := uD (Kd.Q_below (pq HO_438003) hb)
          replace HO_447003 := uD (Kd.Q_below (pq HO_447003) hb)
          replace BK412 := uD (blk_below (pk BK412) hb)
          replace BK420 := uD (blk_below (pk BK420) hb)
          replace BK428 := uD (blk_below (pk BK428) hb)
          replace BK437 := uD (blk_below (pk BK437) hb)
          replace BK446 := uD (blk_below (pk BK446) hb)
          replace HB := uD (uO (pb HB) hb)
          (try clear hb)
          (try clear hb2)
          (try clear hk)
          (try clear hi)
          refine hK.out _ _ ⟨(uF BK420.out 0).trans rfl, (uF BK420.out 1).trans rfl, (uF BK420.out 2).trans rfl, (uF BK420.out 3).trans rfl, (uF BK412.out 0).trans rfl, (uF BK412.out 1).trans rfl, (uF BK412.out 2).trans rfl, (uF BK412.out 3).trans rfl⟩ (fun hHeld => ?_)
          clear hK K
          refine norm_ (a' := ?_) ?_ ?_
          rotate_left
          ·show uc _ (some 98) _ = _
           simp only [uc, uA, uB, uC, uZ, ua]
           rfl
          refine pu 6 (some 100) #[T,T,T,T,T,T,T,F,F,F,F,F,F,F,F,F,F,F,F,F,F,F,F,F,F,F,F,F,F,F,F,F] HT_ ?_
          refine pu 7 (some 101) #[T,T,T,T,T,T,T,T,F,F,F,F,F,F,F,F,F,F,F,F,F,F,F,F,F,F,F,F,F,F,F,F] HT_ ?_
          refine pu 8 (some 102) #[T,T,T,T,T,T,T,T,T,F,F,F,F,F,F,F,F,F,F,F,F,F,F,F,F,F,F,F,F,F,F,F] HT_ ?_
          refine pu 10 (some 104) #[T,T,T,T,T,T,T,T,T,F,T,F,F,F,F,F,F,F,F,F,F,F,F,F,F,F,F,F,F,F,F,F] HT_ ?_
          refine pu 12 (some 106) #[T,T,T,T,T,T,T,T,T,F,T,F,T,F,F,F,F,F,F,F,F,F,F,F,F,F,F,F,F,F,F,F] HT_ ?_
          refine tk 9 (some 103) #[T,T,T,T,T,T,T,T,T,T,T,F,T,F,F,F,F,F,F,F,F,F,F,F,F,F,F,F,F,F,F,F] HT_ HW_ hHeld ?_
          refine one_ (i := 11) (N := some 105) #[T,T,T,T,T,T,T,T,T,T,T,T,T,F,F,F,F,F,F,F,F,F,F,F,F,F,F,F,F,F,F,F] rfl rfl (one_of HT_.out (by kernel_rfl)) (by decide) (fun K hK => ?_)
          refine goes_ Try.func23 (by kernel_rfl) rfl #[.agg #[.int .i64 t413, .int .i64 t414, .bool t415, .slice Ao18 t416.length co18], .int .i64 t411] (by rfl) rfl rfl (by (try simp only [List.map_toArray, List.map_cons, List.map_nil]); first | done | rfl | (simp only [List.length_drop, List.length_take]; rfl)) ?_
          with_reducible refine (impl_CoverAt.calls kj8 t413 t414 t415 _ _ t416 t411 t456 _ ?side1 ?side2 A69.out).mono ?_
          (case side1 => exact pc ((Kd.Q_reads' HO_421003.out).2.2))
          (case side2 => exact (Kd.Q_reads' HO_421003.out).2.1)
          rintro e w78 ⟨rfl, hb⟩
          refine ⟨_, rfl, ?_⟩
          replace HO_413003 := uD (Kd.Q_below (pq HO_413003) hb)
          replace HO_421003 := uD (Kd.Q_below (pq HO_421003) hb)
          replace HO_429003 := uD (Kd.Q_below (pq HO_429003) hb)
          replace HO_438003 := uD (Kd.Q_below (pq HO_438003) hb)
          replace HO_447003 := uD (Kd.Q_below (pq HO_447003) hb)
          replace BK412 := uD (blk_below (pk BK412) hb)
          replace BK420 := uD (blk_below (pk BK420) hb)
          replace BK428 := uD (blk_below (pk BK428) hb)
          replace BK437 := uD (blk_below (pk BK437) hb)
          replace BK446 := uD (blk_below (pk BK446) hb)
          replace HB := uD (uO (pb HB) hb)
          (try clear hb)
          (try clear hb2)
          (try clear hk)
          (try clear hi)
          refine hK.out _ _ ⟨(uF BK420.out 0).trans rfl, (uF BK420.out 1).trans rfl, (uF BK420.out 2).trans rfl, (uF BK420.out 3).trans rfl, (uF BK412.out 0).trans rfl, (uF BK412.out 1).trans rfl, (uF BK412.out 2).trans rfl, (uF BK412.out 3).trans rfl⟩ (fun hHeld => ?_)
          clear hK K
          refine norm_ (a' := ?_) ?_ ?_
          rotate_left
          ·show uc _ (some 105) _ = _
           simp only [uc, uA, uB, uC, uZ, ua]
           rfl
          refine pu 13 (some 107) #[T,T,T,T,T,T,T,T,T,T,T,T,T,T,F,F,F,F,F,F,F,F,F,F,F,F,F,F,F,F,F,F] HT_ ?_
          refine pu 14 (some 108) #[T,T,T,T,T,T,T,T,T,T,T,T,T,T,T,F,F,F,F,F,F,F,F,F,F,F,F,F,F,F,F,F] HT_ ?_
          refine pu 15 (some 109) #[T,T,T,T,T,T,T,T,T,T,T,T,T,T,T,T,F,F,F,F,F,F,F,F,F,F,F,F,F,F,F,F] HT_ ?_
          refine pu 17 (some 111) #[T,T,T,T,T,T,T,T,T,T,T,T,T,T,T,T,F,T,F,F,F,F,F,F,F,F,F,F,F,F,F,F] HT_ ?_
          refine pu 18 (some 112) #[T,T,T,T,T,T,T,T,T,T,T,T,T,T,T,T,F,T,T,F,F,F,F,F,F,F,F,F,F,F,F,F] HT_ ?_
          refine pu 21 (some 115) #[T,T,T,T,T,T,T,T,T,T,T,T,T,T,T,T,F,T,T,F,F,T,F,F,F,F,F,F,F,F,F,F] HT_ ?_
          refine pu 22 (some 116) #[T,T,T,T,T,T,T,T,T,T,T,T,T,T,T,T,F,T,T,F,F,T,T,F,F,F,F,F,F,F,F,F] HT_ ?_
          refine tk 16 (some 110) #[T,T,T,T,T,T,T,T,T,T,T,T,T,T,T,T,T,T,T,F,F,T,T,F,F,F,F,F,F,F,F,F] HT_ HW_ hHeld ?_
          refine tk 20 (some 114) #[T,T,T,T,T,T,T,T,T,T,T,T,T,T,T,T,T,T,T,F,T,T,T,F,F,F,F,F,F,F,F,F] HT_ HW_ hHeld ?_
          refine one_ (i := 19) (N := some 113) #[T,T,T,T,T,T,T,T,T,T,T,T,T,T,T,T,T,T,T,T,T,T,T,F,F,F,F,F,F,F,F,F] rfl rfl (one_of HT_.out (by kernel_rfl)) (by decide) (fun K hK => ?_)
          refine goes_ Try.func23 (by kernel_rfl) rfl #[.agg #[.int .i64 t413, .int .i64 t414, .bool t415, .slice Ao18 t416.length co18], .int .i64 (wrap64 (t411 + 1))] (by rfl) rfl rfl (by (try simp only [List.map_toArray, List.map_cons, List.map_nil]); first | done | rfl | (simp only [List.length_drop, List.length_take]; rfl)) ?_
          with_reducible refine (impl_CoverAt.calls kj8 t413 t414 t415 _ _ t416 (wrap64 (t411 + 1)) t457 _ ?side1 ?side2 A71.out).mono ?_
          (case side1 => exact pc ((Kd.Q_reads' HO_421003.out).2.2))
          (case side2 => exact (Kd.Q_reads' HO_421003.out).2.1)
          rintro e w79 ⟨rfl, hb⟩
          refine ⟨_, rfl, ?_⟩
          replace HO_413003 := uD (Kd.Q_below (pq HO_413003) hb)
          replace HO_421003 := uD (Kd.Q_below (pq HO_421003) hb)
          replace HO_429003 := uD (Kd.Q_below (pq HO_429003) hb)
          replace HO_438003 := uD (Kd.Q_below (pq HO_438003) hb)
          replace HO_447003 := uD (Kd.Q_below (pq HO_447003) hb)
          replace BK412 := uD (blk_below (pk BK412) hb)
          replace BK420 := uD (blk_below (pk BK420) hb)
          replace BK428 := uD (blk_below (pk BK428) hb)
          replace BK437 := uD (blk_below (pk BK437) hb)
          replace BK446 := uD (blk_below (pk BK446) hb)
          replace HB := uD (uO (pb HB) hb)
          (try clear hb)
          (try clear hb2)
          (try clear hk)
          (try clear hi)
          refine hK.out _ _ ⟨(uF BK420.out 0).trans rfl, (uF BK420.out 1).trans rfl, (uF BK420.out 2).trans rfl, (uF BK420.out 3).trans rfl, (uF BK412.out 0).trans rfl, (uF BK412.out 1).trans rfl, (uF BK412.out 2).trans rfl, (uF BK412.out 3).trans rfl⟩ (fun hHeld => ?_)
          clear hK K
          refine norm_ (a' := ?_) ?_ ?_
          rotate_left
          ·show uc _ (some 113) _ = _
           simp only [uc, uA, uB, uC, uZ, ua]
           rfl
          refine one_ (i := 23) (N := some 117) #[T,T,T,T,T,T,T,T,T,T,T,T,T,T,T,T,T,T,T,T,T,T,T,T,F,F,F,F,F,F,F,F] rfl rfl (one_of HT_.out (by kernel_rfl)) (by decide) (fun K hK => ?_)
          refine goes_ Try.func23 (by kernel_rfl) rfl #[.agg #[.int .i64 t404, .int .i64 t405, .bool t406, .slice Ao13 t407.length co13], .int .i64 (wrap64 (t411 + 1))] (by rfl) rfl rfl (by (try simp only [List.map_toArray, List.map_cons, List.map_nil]); first | done | rfl | (simp only [List.length_drop, List.length_take]; rfl)) ?_
          with_reducible refine (impl_CoverAt.calls kj8 t404 t405 t406 _ _ t407 (wrap64 (t411 + 1)) t458 _ ?side1 ?side2 A72.out).mono ?_
          (case side1 => exact pc ((Kd.Q_reads' HO_413003.out).2.2))
          (case side2 => exact (Kd.Q_reads' HO_413003.out).2.1)
          rintro e w80 ⟨rfl, hb⟩
          refine ⟨_, rfl, ?_⟩
          replace HO_413003 := uD (Kd.Q_below (pq HO_413003) hb)
          replace HO_421003 := uD (Kd.Q_below (pq HO_421003) hb)
          replace HO_429003 := uD (Kd.Q_below (pq HO_429003) hb)
          replace HO_438003 := uD (Kd.Q_below (pq HO_438003) hb)
          replace HO_447003 := uD (Kd.Q_below (pq HO_447003) hb)
          replace BK412 := uD (blk_below (pk BK412) hb)
          replace BK420 := uD (blk_below (pk BK420) hb)
          replace BK428 := uD (blk_below (pk BK428) hb)
          replace BK437 := uD (blk_below (pk BK437) hb)
          replace BK446 := uD (blk_below (pk BK446) hb)
          replace HB := uD (uO (pb HB) hb)
          (try clear hb)
          (try clear hb2)
          (try clear hk)
          (try clear hi)
          refine hK.out _ _ ⟨(uF BK420.out 0).trans rfl, (uF BK420.out 1).trans rfl, (uF BK420.out 2).trans rfl, (uF BK420.out 3).trans rfl, (uF BK412.out 0).trans rfl, (uF BK412.out 1).trans rfl, (uF BK412.out 2).trans rfl, (uF BK412.out 3).trans rfl⟩ (fun hHeld => ?_)
          clear hK K
          refine norm_ (a' := ?_) ?_ ?_
          rotate_left
          ·show uc _ (some 117) _ = _
           simp only [uc, uA, uB, uC, uZ, ua]
           rfl
          refine pu 24 (some 118) #[T,T,T,T,T,T,T,T,T,T,T,T,T,T,T,T,T,T,T,T,T,T,T,T,T,F,F,F,F,F,F,F] HT_ ?_
          refine pu 25 (some 119) #[T,T,T,T,T,T,T,T,T,T,T,T,T,T,T,T,T,T,T,T,T,T,T,T,T,T,F,F,F,F,F,F] HT_ ?_
          refine pu 26 (some 120) #[T,T,T,T,T,T,T,T,T,T,T,T,T,T,T,T,T,T,T,T,T,T,T,T,T,T,T,F,F,F,F,F] HT_ ?_
          refine tk 27 (some 121) #[T,T,T,T,T,T,T,T,T,T,T,T,T,T,T,T,T,T,T,T,T,T,T,T,T,T,T,T,F,F,F,F] HT_ HW_ hHeld ?_
          refine one_ (i := 28) (N := some 122) #[T,T,T,T,T,T,T,T,T,T,T,T,T,T,T,T,T,T,T,T,T,T,T,T,T,T,T,T,T,F,F,F] rfl rfl (one_of HT_.out (by kernel_rfl)) (by decide) (fun K hK => ?_)
          refine goes_ Try.func23 (by kernel_rfl) rfl #[.agg #[.int .i64 t413, .int .i64 t414, .bool t415, .slice Ao18 t416.length co18], .int .i64 0] (by rfl) rfl rfl (by (try simp only [List.map_toArray, List.map_cons, List.map_nil]); first | done | rfl | (simp only [List.length_drop, List.length_take]; rfl)) ?_
          with_reducible refine (impl_CoverAt.calls kj8 t413 t414 t415 _ _ t416 0 t459 _ ?side1 ?side2 A74.out).mono ?_
          (case side1 => exact pc ((Kd.Q_reads' HO_421003.out).2.2))
          (case side2 => exact (Kd.Q_reads' HO_421003.out).2.1)
          rintro e w81 ⟨rfl, hb⟩
          refine ⟨_, rfl, ?_⟩
          replace HO_413003 := uD (Kd.Q_below (pq HO_413003) hb)
          replace HO_421003 := uD (Kd.Q_below (pq HO_421003) hb)
          replace HO_429003 := uD (Kd.Q_below (pq HO_429003) hb)
          replace HO_438003 := uD (Kd.Q_below (pq HO_438003) hb)
          replace HO_447003 := uD (Kd.Q_below (pq HO_447003) hb)
          replace BK412 := uD (blk_below (pk BK412) hb)
          replace BK420 := uD (blk_below (pk BK420) hb)
          replace BK428 := uD (blk_below (pk BK428) hb)
          replace BK437 := uD (blk_below (pk BK437) hb)
          replace BK446 := uD (blk_below (pk BK446) hb)
          replace HB := uD (uO (pb HB) hb)
          (try clear hb)
          (try clear hb2)
          (try clear hk)
          (try clear hi)
          refine hK.out _ _ ⟨(uF BK420.out 0).trans rfl, (uF BK420.out 1).trans rfl, (uF BK420.out 2).trans rfl, (uF BK420.out 3).trans rfl, (uF BK412.out 0).trans rfl, (uF BK412.out 1).trans rfl, (uF BK412.out 2).trans rfl, (uF BK412.out 3).trans rfl⟩ (fun hHeld => ?_)
          clear hK K
          refine norm_ (a' := ?_) ?_ ?_
          rotate_left
          ·show uc _ (some 122) _ = _
           simp only [uc, uA, uB, uC, uZ, ua]
           rfl
          refine pu 29 (some 123) #[T,T,T,T,T,T,T,T,T,T,T,T,T,T,T,T,T,T,T,T,T,T,T,T,T,T,T,T,T,T,F,F] HT_ ?_
          refine pu 30 (some 124) #[T,T,T,T,T,T,T,T,T,T,T,T,T,T,T,T,T,T,T,T,T,T,T,T,T,T,T,T,T,T,T,F] HT_ ?_
          refine pu 31 (some 2) #[T,T,T,T,T,T,T,T,T,T,T,T,T,T,T,T,T,T,T,T,T,T,T,T,T,T,T,T,T,T,T,T] HT_ ?_
          refine done_ (done_of HT_.out (by kernel_rfl)) ?_
          try go_wp2
          go_ret
          exact ⟨by first | rfl | (simp [errW_none, errW_some] <;> rfl) | (simp [*, errW_none, errW_some] <;> rfl), pb HB⟩
         ·rw [if_neg c73] at H
          have c73b0 : (t457 == t458) = false := beq_eq_false_iff_ne.mpr c73
          have c73b1 : (t457 != t458) = true := bne_iff_ne.mpr c73
          exact absurd H (by simp)
        ·rw [if_neg c70] at H
         have c70b0 : (t456 == t410) = false := beq_eq_false_iff_ne.mpr c70
         have c70b1 : (t456 != t410) = true := bne_iff_ne.mpr c70
         exact absurd H (by simp)
       ·rw [if_neg c68] at H
        have c68b0 : (t455 == t410) = false := beq_eq_false_iff_ne.mpr c68
        have c68b1 : (t455 != t410) = true := bne_iff_ne.mpr c68
        exact absurd H (by simp)
      ·replace c66 := Bool.eq_false_iff.mpr c66
       subst c66
       have H1 : (some false) = some true := by rw [if_neg (show ¬ (false = true) by decide)] at H; first | done | exact H
       clear H
       have H := H1
       clear H1
       exact absurd H (by simp)
     ·replace c64 := Bool.eq_false_iff.mpr c64
      subst c64
      have H1 : ((laws_sameBelt.f kj8 t413 t414 t415 t416 t404 t405 t406 t407).bind fun t453 => (some t453)) = some true := by rw [if_neg (show ¬ (false = true) by decide)] at H; first | done | exact H
      clear H
      have H := H1
      clear H1
      replace H := Option.bind_eq_some_iff.mp H
      obtain ⟨t453, A820, H⟩ := H
      replace H : (some t453) = some true := H
      have A82 := uD A820
      clear A820
      have HT := Option.some.inj H
      clear H
      have hnb83 := NB420_412.out
      have hnc83 := NB412_420.out
      have hnb84 := NB420_428.out
      have hnc84 := NB428_420.out
      have hnb85 := NB420_437.out
      have hnc85 := NB437_420.out
      have hnb86 := NB420_446.out
      have hnc86 := NB446_420.out
      obtain ⟨hcz87_0, hcz87_1, hcz87_2, hcz87_3, hfz87_0, hfz87_1, hfz87_2, hfz87_3⟩ := cz4 BK420
      have hnb88 := NB412_428.out
      have hnc88 := NB428_412.out
      have hnb89 := NB412_437.out
      have hnc89 := NB437_412.out
      have hnb90 := NB412_446.out
      have hnc90 := NB446_412.out
      obtain ⟨hcz91_0, hcz91_1, hcz91_2, hcz91_3, hfz91_0, hfz91_1, hfz91_2, hfz91_3⟩ := cz4 BK412
      go_wp2_with (first | ((with_reducible refine gate_callee (f := 43) rfl ?_); refine gl (some 93) Try.func43 #[.agg #[.int .i64 t413, .int .i64 t414, .bool t415, .slice Ao18 t416.length co18], .agg #[.int .i64 t404, .int .i64 t405, .bool t406, .slice Ao13 t407.length co13]] ?_; (with_reducible refine (laws_sameBelt.calls kj8 t413 t414 t415 _ _ t416 t404 t405 t406 _ _ t407 t453 _ ?side1 ?side2 ?side3 ?side4 A82.out).mono ?_); (case side1 => exact pc ((Kd.Q_reads' HO_421003.out).2.2)); (case side2 => exact (Kd.Q_reads' HO_421003.out).2.1); (case side3 => exact pc ((Kd.Q_reads' HO_413003.out).2.2)); (case side4 => exact (Kd.Q_reads' HO_413003.out).2.1); rintro e w92 ⟨rfl, hb⟩; refine ⟨_, rfl, ?_⟩; replace HO_413003 := uD (Kd.Q_below (pq HO_413003) hb); replace HO_421003 := uD (Kd.Q_below (pq HO_421003) hb); replace HO_429003 := uD (Kd.Q_below (pq HO_429003) hb); replace HO_438003 := uD (Kd.Q_below (pq HO_438003) hb); replace HO_447003 := uD (Kd.Q_below (pq HO_447003) hb); replace BK412 := uD (blk_below (pk BK412) hb); replace BK420 := uD (blk_below (pk BK420) hb); replace BK428 := uD (blk_below (pk BK428) hb); replace BK437 := uD (blk_below (pk BK437) hb); replace BK446 := uD (blk_below (pk BK446) hb); replace HB := uD (uO (pb HB) hb); (try clear hb); (try clear hb2); (try clear hk); (try clear hi)))
      go_ret
      exact ⟨by first | rfl | (simp [errW_none, errW_some] <;> rfl) | (simp [*, errW_none, errW_some] <;> rfl), pb HB⟩

/-- THE ONE PURE STATEMENT of laws_FnBeltEnters: yours. -/
def laws_FnBeltEnters.Pure : Prop := ∀ (l0 : List Int), l0.length ≤ maxLen → l0.length * 1 ≤ 140737488351232 → (∀ x ∈ l0, (Lit.int .u8 x).wf = true) → ∃ k, laws_FnBeltEnters.f k l0 = some true
theorem laws_FnBeltEnters.walk (P : laws_FnBeltEnters.Pure) (a0 : Option Addr) (len0 cap0 : Nat) (z0 : List Int) (w : World) (w0 : (a0 = none ∧ len0 = 0 ∧ cap0 = 0 ∧ z0 = []) ∨ ∃ x, a0 = some x ∧ len0 ≤ cap0 ∧ cap0 ≤ maxLen ∧ z0.length = cap0 ∧ (∀ i, i < z0.length → w.cell? (x.add i) = some (.int .u8 (z0.getD i 0))) ∧ ∀ n ∈ z0, (Lit.int .u8 n).wf = true) (y0 : len0 * 1 ≤ 140737488351232) :
  Calls Try.prog 14 #[.slice a0 len0 cap0] w fun e w' => e = .returned (.bool true) ∧ Below w.heap.size w w' := by
 obtain ⟨l0, rfl, hr0, hm0, hw0, hc0⟩ := ReadsInt.ofRowC w0
 obtain ⟨k, h⟩ := P l0 hm0 y0 hw0
 refine (laws_FnBeltEnters.calls k _ _ l0 w (Kd.C_of_reads (d := (0 : Int)) (h1 := fun _ => rfl) hr0) hc0 h).mono ?_
 rintro e w' ⟨rfl, hd⟩
 exact ⟨rfl, hd⟩

end Go.Proofs.Ytbdjbdoelbmjcaa.PFnBeltEnters
