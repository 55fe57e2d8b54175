-- Written by a program of this session (wip/myprint.py: the kit's print with changes): not by print.sh itself.
import Derived.Test.YtbdjbdoelbmjcaaPFnBeltEntersx0
import Derived.Test.YtbdjbdoelbmjcaaPFnBeltEntersx10
import Derived.Test.YtbdjbdoelbmjcaaPFnBeltEntersx11
namespace Go.Proofs.Ytbdjbdoelbmjcaa.PFnBeltEnters
open Go.RowKit Go.Proofs.YtbdjbdoelbmjcaaW.PrintWords Go.Proofs.YtbdjbdoelbmjcaaW.PrintLast Go.Proofs.YtbdjbdoelbmjcaaW.PrintMore
open Go renaming Act.put → uc
open Go.Proofs.YtbdjbdoelbmjcaaW.PrintLast renaming i64_w → uZ, i32_w → ua
open Go.Proofs.YtbdjbdoelbmjcaaW.PrintWords renaming Aside0.mk → uD, pw_below_drewN → uE, blk_cell → uF, blk_alloc → uG, blk_drewN → uH, blk_drew → uJ, below_drew1 → uK, below_alloc → uL, below_set → uM, below_step → uO, blk_put → uP, blk_far → uQ, Kd.R_drewN → uS, Kd.R_drew → uT, Kd.R_alloc → uU, Kd.R_far → uV, Kd.R_types → uW, Kd.R_mono → uX
open List renaming setIfInBounds_toArray → uA, set_cons_zero → uB, set_cons_succ → uC
open Bool renaming true → T, false → F
attribute [local go_sem] max2_int min2_int max_two min_two max_three min_three max_four min_four   -- for this text's walks alone
set_option linter.unusedVariables false
set_option linter.unusedSimpArgs false

/-! ### spec_l02Any: function 66 -/
def spec_l02Any.l0 : Nat → Int → List Int → Int → Int → Int → Int → Bool → List (S53) → Option (Int × Int × Bool × (List (S53)) × Int × Int)
 | 0, _, _, _, _, _, _, _, _ => none
 | k + 1, x5, x1000, x1001, x1002, x339000, x339001, x339002, x339003 => (spec_l01Below.f x1000 x1001 x1002 2).bind fun bt371 => (if x5 < (wrap64 (40 + bt371.1)) then (if x339003.length < 5864062014805 then (spec_l02Any.l0 k (wrap64 (x5 + 1)) x1000 bt371.2.1 bt371.2.2 x339000 x339001 x339002 (x339003 ++ [(⟨wrap64 (x5 + 1), wrap64 (400 - x5), 1⟩ : S53)])) else (none)) else (some (x339000, x339001, x339002, x339003, bt371.2.1, bt371.2.2)))
def spec_l02Any.f (k : Nat) (s0_0 : List Int) (s0_1 : Int) (s0_2 : Int) : Option (Int × Int × Bool × (List (S53)) × Int × Int) := (spec_l02Belt.f k s0_0 s0_1 s0_2).bind fun bt330 => ((spec_l01Below.f s0_0 bt330.2.2.2.2.1 bt330.2.2.2.2.2 18).bind fun bt339 => (if bt339.1 = 0 then ((spec_l01PickInt.f s0_0 bt339.2.1 bt339.2.2 (([0, 400, 401, (-1)] : List Int))).bind fun bt345 => (some (bt345.1, bt330.2.1, bt330.2.2.1, bt330.2.2.2.1, bt345.2.1, bt345.2.2))) else (if bt339.1 = 1 then ((spec_l01PickInt.f s0_0 bt339.2.1 bt339.2.2 (([(-1), 20, 21] : List Int))).bind fun bt351 => (some (bt330.1, bt351.1, bt330.2.2.1, bt330.2.2.2.1, bt351.2.1, bt351.2.2))) else (if bt339.1 = 2 then (if (bt330.2.2.2.1.length : Int) > 1 then (if 0 < (bt330.2.2.2.1.length : Int) then (if 0 ≤ (wrap64 ((bt330.2.2.2.1.length : Int) - 1)) then (if (wrap64 ((bt330.2.2.2.1.length : Int) - 1)) < (bt330.2.2.2.1.length : Int) then (some (bt330.1, bt330.2.1, bt330.2.2.1, (bt330.2.2.2.1.set ((wrap64 ((bt330.2.2.2.1.length : Int) - 1)) : Int).toNat (⟨(rd_T53 bt330.2.2.2.1 0).f0, (rd_T53 bt330.2.2.2.1 (wrap64 ((bt330.2.2.2.1.length : Int) - 1))).f1, (rd_T53 bt330.2.2.2.1 (wrap64 ((bt330.2.2.2.1.length : Int) - 1))).f2⟩ : S53)), bt339.2.1, bt339.2.2)) else (none)) else (none)) else (none)) else (some (bt330.1, bt330.2.1, bt330.2.2.1, bt330.2.2.2.1, bt339.2.1, bt339.2.2))) else (if bt339.1 = 3 then (if (bt330.2.2.2.1.length : Int) > 0 then (if 0 ≤ (wrap64 ((bt330.2.2.2.1.length : Int) - 1)) then (if (wrap64 ((bt330.2.2.2.1.length : Int) - 1)) < (bt330.2.2.2.1.length : Int) then ((spec_l01PickInt.f s0_0 bt339.2.1 bt339.2.2 (([1, (-1), 9] : List Int))).bind fun bt360 => (some (bt330.1, bt330.2.1, bt330.2.2.1, (bt330.2.2.2.1.set ((wrap64 ((bt330.2.2.2.1.length : Int) - 1)) : Int).toNat (⟨(rd_T53 bt330.2.2.2.1 (wrap64 ((bt330.2.2.2.1.length : Int) - 1))).f0, wrap64 (((rd_T53 bt330.2.2.2.1 (wrap64 ((bt330.2.2.2.1.length : Int) - 1))).f1) + bt360.1), (rd_T53 bt330.2.2.2.1 (wrap64 ((bt330.2.2.2.1.length : Int) - 1))).f2⟩ : S53)), bt360.2.1, bt360.2.2))) else (none)) else (none)) else (some (bt330.1, bt330.2.1, bt330.2.2.1, bt330.2.2.2.1, bt339.2.1, bt339.2.2))) else (if bt339.1 = 4 then (if (bt330.2.2.2.1.length : Int) > 0 then ((spec_l01PickInt.f s0_0 bt339.2.1 bt339.2.2 (([0, 61, 60, (-1)] : List Int))).bind fun bt367 => (if 0 < (bt330.2.2.2.1.length : Int) then (some (bt330.1, bt330.2.1, bt330.2.2.1, (bt330.2.2.2.1.set (0 : Int).toNat (⟨(rd_T53 bt330.2.2.2.1 0).f0, (rd_T53 bt330.2.2.2.1 0).f1, bt367.1⟩ : S53)), bt367.2.1, bt367.2.2)) else (none))) else (some (bt330.1, bt330.2.1, bt330.2.2.1, bt330.2.2.2.1, bt339.2.1, bt339.2.2))) else (if bt339.1 = 5 then (spec_l02Any.l0 k 0 s0_0 bt339.2.1 bt339.2.2 400 0 false ([] : List (S53))) else (some (bt330.1, bt330.2.1, bt330.2.2.1, bt330.2.2.2.1, bt339.2.1, bt339.2.2)))))))))
theorem spec_l02Any.mono_l : ∀ k, (∀ y0 y1 y2 y3 y4 y5 y6 y7, LeO (spec_l02Any.l0 k y0 y1 y2 y3 y4 y5 y6 y7) (spec_l02Any.l0 (k + 1) y0 y1 y2 y3 y4 y5 y6 y7))
 | 0 => fun _ _ _ _ _ _ _ _ r h => by simp [spec_l02Any.l0] at h
 | k + 1 => by
  have ih0 := spec_l02Any.mono_l k
  ·intro y0 y1 y2 y3 y4 y5 y6 y7
   unfold spec_l02Any.l0
   repeat' first
   | (with_reducible exact ih0 _ _ _ _ _ _ _ _)
   | (with_reducible exact spec_l02Belt.mono _ _ _ _)
   | (with_reducible exact LeO.refl _)
   | (with_reducible exact LeO.none _)
   | (with_reducible refine LeO.ite ?_ ?_)
   | (with_reducible refine LeO.bind ?_ (fun _ => ?_))
   | exact ih0 _ _ _ _ _ _ _ _
   | exact spec_l02Belt.mono _ _ _ _
   | exact LeO.none _
   | refine LeO.ite ?_ ?_
   | refine LeO.bind ?_ (fun _ => ?_)
theorem spec_l02Any.mono : ∀ a0 a1 a2 k, LeO (spec_l02Any.f k a0 a1 a2) (spec_l02Any.f (k + 1) a0 a1 a2) := by
 intro a0 a1 a2 k
 have ih0 := spec_l02Any.mono_l k
 unfold spec_l02Any.f
 repeat' first
   | (with_reducible exact ih0 _ _ _ _ _ _ _ _)
   | (with_reducible exact spec_l02Belt.mono _ _ _ _)
   | (with_reducible exact LeO.refl _)
   | (with_reducible exact LeO.none _)
   | (with_reducible refine LeO.ite ?_ ?_)
   | (with_reducible refine LeO.bind ?_ (fun _ => ?_))
   | exact ih0 _ _ _ _ _ _ _ _
   | exact spec_l02Belt.mono _ _ _ _
   | exact LeO.none _
   | refine LeO.ite ?_ ?_
   | refine LeO.bind ?_ (fun _ => ?_)
def spec_l02Any.T10 : Bool × List (List Nat × List Nat) := (true, [([], []), ([0], [0]), ([], []), ([2], [2]), ([], []), ([4], [4]), ([5], [5]), ([6], [6]), ([7], [7]), ([1, 3, 0, 1, 2, 3, 4, 5, 6, 7, 8], [1, 3]), ([9, 0, 1, 2, 3, 4, 5, 6, 7, 8], [9]), ([10, 8, 0, 1, 2, 3, 4, 5, 6, 7, 8], [8, 10])])
def spec_l02Any.B10 : List Nat := [0, 1, 0, 4, 0, 16, 48, 112, 240, 511, 1023, 2047]
theorem spec_l02Any.tab10 : rtab .any (opsOf Try.f66 10) = spec_l02Any.T10 := by kernel_rfl
theorem spec_l02Any.bits10 : waitsOk spec_l02Any.T10.2 spec_l02Any.B10 = true := by kernel_rfl
def spec_l02Any.T13 : Bool × List (List Nat × List Nat) := (true, [([], []), ([0], [0]), ([], []), ([2], [2]), ([], []), ([4], [4]), ([], []), ([6], [6]), ([5, 7], [5, 7]), ([8], [8]), ([9], [9]), ([], []), ([], []), ([11, 12], [11, 12]), ([10, 13], [10, 13]), ([1, 3, 0, 1, 2, 3, 4, 5, 6, 7, 8, 9, 10, 11, 12, 13, 14], [1, 3]), ([15, 0, 1, 2, 3, 4, 5, 6, 7, 8, 9, 10, 11, 12, 13, 14], [15]), ([16, 14, 13, 0, 1, 2, 3, 4, 5, 6, 7, 8, 9, 10, 11, 12, 13, 14], [14, 16])])
def spec_l02Any.B13 : List Nat := [0, 1, 0, 4, 0, 16, 0, 64, 240, 496, 1008, 0, 0, 6144, 16368, 32767, 65535, 131071]
theorem spec_l02Any.tab13 : rtab .any (opsOf Try.f66 13) = spec_l02Any.T13 := by kernel_rfl
theorem spec_l02Any.bits13 : waitsOk spec_l02Any.T13.2 spec_l02Any.B13 = true := by kernel_rfl
def spec_l02Any.T16 : Bool × List (List Nat × List Nat) := (true, [([], []), ([0], [0]), ([], []), ([], []), ([2, 3], [2, 3]), ([1, 0, 1, 2, 3, 4], [1]), ([5, 0, 1, 2, 3, 4], [5]), ([6, 4, 4, 0, 1, 2, 3, 4], [4, 6])])
def spec_l02Any.B16 : List Nat := [0, 1, 0, 0, 12, 31, 63, 127]
theorem spec_l02Any.tab16 : rtab .any (opsOf Try.f66 16) = spec_l02Any.T16 := by kernel_rfl
theorem spec_l02Any.bits16 : waitsOk spec_l02Any.T16.2 spec_l02Any.B16 = true := by kernel_rfl
set_option maxHeartbeats 8000000 in
set_option maxRecDepth 100000 in
theorem spec_l02Any.calls (k : Nat) (g : Nat) (s0_0 : List Int) (s0_1 : Int) (s0_2 : Int) (r1 : Int) (r2 : Int) (r3 : Bool) (r4 : List (S53)) (r5 : Int) (r6 : Int) (w0 w : World) (hI : IsS85 w0 w g s0_0 s0_1 s0_2) (hB : Below w0.heap.size w0 w) (h : spec_l02Any.f k s0_0 s0_1 s0_2 = some (r1, r2, r3, r4, r5, r6)) :
  Calls Try.prog 66 #[.pointer (some ⟨g, 0, none⟩)] w fun e w' => ∃ v3_ : Value, e = .returned (.agg #[.int .i64 r1, .int .i64 r2, .bool r3, v3_]) ∧ Kd.R k53 53 w' w.heap.size (fun _ => True) v3_ r4 ∧ IsS85 w0 w' g s0_0 r5 r6 ∧ Below w0.heap.size w0 w' ∧ KeepBut w w' g none := by
 have hu29 := Try.underlying29
 have hu53 := Try.underlying53
 have HI0 := uD hI
 have HK := uD (KeepBut.refl w g none)
 have HL := uD hB.size
 clear hI
 have HW0 := uD hB.size
 have HB := uD hB
 clear hB
 have H : ((spec_l02Belt.f k s0_0 s0_1 s0_2).bind fun bt330 => ((spec_l01Below.f s0_0 bt330.2.2.2.2.1 bt330.2.2.2.2.2 18).bind fun bt339 => (if bt339.1 = 0 then ((spec_l01PickInt.f s0_0 bt339.2.1 bt339.2.2 (([0, 400, 401, (-1)] : List Int))).bind fun bt345 => (some (bt345.1, bt330.2.1, bt330.2.2.1, bt330.2.2.2.1, bt345.2.1, bt345.2.2))) else (if bt339.1 = 1 then ((spec_l01PickInt.f s0_0 bt339.2.1 bt339.2.2 (([(-1), 20, 21] : List Int))).bind fun bt351 => (some (bt330.1, bt351.1, bt330.2.2.1, bt330.2.2.2.1, bt351.2.1, bt351.2.2))) else (if bt339.1 = 2 then (if (bt330.2.2.2.1.length : Int) > 1 then (if 0 < (bt330.2.2.2.1.length : Int) then (if 0 ≤ (wrap64 ((bt330.2.2.2.1.length : Int) - 1)) then (if (wrap64 ((bt330.2.2.2.1.length : Int) - 1)) < (bt330.2.2.2.1.length : Int) then (some (bt330.1, bt330.2.1, bt330.2.2.1, (bt330.2.2.2.1.set ((wrap64 ((bt330.2.2.2.1.length : Int) - 1)) : Int).toNat (⟨(rd_T53 bt330.2.2.2.1 0).f0, (rd_T53 bt330.2.2.2.1 (wrap64 ((bt330.2.2.2.1.length : Int) - 1))).f1, (rd_T53 bt330.2.2.2.1 (wrap64 ((bt330.2.2.2.1.length : Int) - 1))).f2⟩ : S53)), bt339.2.1, bt339.2.2)) else (none)) else (none)) else (none)) else (some (bt330.1, bt330.2.1, bt330.2.2.1, bt330.2.2.2.1, bt339.2.1, bt339.2.2))) else (if bt339.1 = 3 then (if (bt330.2.2.2.1.length : Int) > 0 then (if 0 ≤ (wrap64 ((bt330.2.2.2.1.length : Int) - 1)) then (if (wrap64 ((bt330.2.2.2.1.length : Int) - 1)) < (bt330.2.2.2.1.length : Int) then ((spec_l01PickInt.f s0_0 bt339.2.1 bt339.2.2 (([1, (-1), 9] : List Int))).bind fun bt360 => (some (bt330.1, bt330.2.1, bt330.2.2.1, (bt330.2.2.2.1.set ((wrap64 ((bt330.2.2.2.1.length : Int) - 1)) : Int).toNat (⟨(rd_T53 bt330.2.2.2.1 (wrap64 ((bt330.2.2.2.1.length : Int) - 1))).f0, wrap64 (((rd_T53 bt330.2.2.2.1 (wrap64 ((bt330.2.2.2.1.length : Int) - 1))).f1) + bt360.1), (rd_T53 bt330.2.2.2.1 (wrap64 ((bt330.2.2.2.1.length : Int) - 1))).f2⟩ : S53)), bt360.2.1, bt360.2.2))) else (none)) else (none)) else (some (bt330.1, bt330.2.1, bt330.2.2.1, bt330.2.2.2.1, bt339.2.1, bt339.2.2))) else (if bt339.1 = 4 then (if (bt330.2.2.2.1.length : Int) > 0 then ((spec_l01PickInt.f s0_0 bt339.2.1 bt339.2.2 (([0, 61, 60, (-1)] : List Int))).bind fun bt367 => (if 0 < (bt330.2.2.2.1.length : Int) then (some (bt330.1, bt330.2.1, bt330.2.2.1, (bt330.2.2.2.1.set (0 : Int).toNat (⟨(rd_T53 bt330.2.2.2.1 0).f0, (rd_T53 bt330.2.2.2.1 0).f1, bt367.1⟩ : S53)), bt367.2.1, bt367.2.2)) else (none))) else (some (bt330.1, bt330.2.1, bt330.2.2.1, bt330.2.2.2.1, bt339.2.1, bt339.2.2))) else (if bt339.1 = 5 then (spec_l02Any.l0 k 0 s0_0 bt339.2.1 bt339.2.2 400 0 false ([] : List (S53))) else (some (bt330.1, bt330.2.1, bt330.2.2.1, bt330.2.2.2.1, bt339.2.1, bt339.2.2)))))))))) = some (r1, r2, r3, r4, r5, r6) := h
 clear h
 replace H := Option.bind_eq_some_iff.mp H
 obtain ⟨⟨t330, t331, t332, t333, t336, t337⟩, A20, H⟩ := H
 replace H : ((spec_l01Below.f s0_0 t336 t337 18).bind fun bt339 => (if bt339.1 = 0 then ((spec_l01PickInt.f s0_0 bt339.2.1 bt339.2.2 (([0, 400, 401, (-1)] : List Int))).bind fun bt345 => (some (bt345.1, t331, t332, t333, bt345.2.1, bt345.2.2))) else (if bt339.1 = 1 then ((spec_l01PickInt.f s0_0 bt339.2.1 bt339.2.2 (([(-1), 20, 21] : List Int))).bind fun bt351 => (some (t330, bt351.1, t332, t333, bt351.2.1, bt351.2.2))) else (if bt339.1 = 2 then (if (t333.length : Int) > 1 then (if 0 < (t333.length : Int) then (if 0 ≤ (wrap64 ((t333.length : Int) - 1)) then (if (wrap64 ((t333.length : Int) - 1)) < (t333.length : Int) then (some (t330, t331, t332, (t333.set ((wrap64 ((t333.length : Int) - 1)) : Int).toNat (⟨(rd_T53 t333 0).f0, (rd_T53 t333 (wrap64 ((t333.length : Int) - 1))).f1, (rd_T53 t333 (wrap64 ((t333.length : Int) - 1))).f2⟩ : S53)), bt339.2.1, bt339.2.2)) else (none)) else (none)) else (none)) else (some (t330, t331, t332, t333, bt339.2.1, bt339.2.2))) else (if bt339.1 = 3 then (if (t333.length : Int) > 0 then (if 0 ≤ (wrap64 ((t333.length : Int) - 1)) then (if (wrap64 ((t333.length : Int) - 1)) < (t333.length : Int) then ((spec_l01PickInt.f s0_0 bt339.2.1 bt339.2.2 (([1, (-1), 9] : List Int))).bind fun bt360 => (some (t330, t331, t332, (t333.set ((wrap64 ((t333.length : Int) - 1)) : Int).toNat (⟨(rd_T53 t333 (wrap64 ((t333.length : Int) - 1))).f0, wrap64 (((rd_T53 t333 (wrap64 ((t333.length : Int) - 1))).f1) + bt360.1), (rd_T53 t333 (wrap64 ((t333.length : Int) - 1))).f2⟩ : S53)), bt360.2.1, bt360.2.2))) else (none)) else (none)) else (some (t330, t331, t332, t333, bt339.2.1, bt339.2.2))) else (if bt339.1 = 4 then (if (t333.length : Int) > 0 then ((spec_l01PickInt.f s0_0 bt339.2.1 bt339.2.2 (([0, 61, 60, (-1)] : List Int))).bind fun bt367 => (if 0 < (t333.length : Int) then (some (t330, t331, t332, (t333.set (0 : Int).toNat (⟨(rd_T53 t333 0).f0, (rd_T53 t333 0).f1, bt367.1⟩ : S53)), bt367.2.1, bt367.2.2)) else (none))) else (some (t330, t331, t332, t333, bt339.2.1, bt339.2.2))) else (if bt339.1 = 5 then (spec_l02Any.l0 k 0 s0_0 bt339.2.1 bt339.2.2 400 0 false ([] : List (S53))) else (some (t330, t331, t332, t333, bt339.2.1, bt339.2.2))))))))) = some (r1, r2, r3, r4, r5, r6) := H
 have A2 := uD A20
 clear A20
 replace H := Option.bind_eq_some_iff.mp H
 obtain ⟨⟨t339, t340, t341⟩, A30, H⟩ := H
 replace H : (if t339 = 0 then ((spec_l01PickInt.f s0_0 t340 t341 (([0, 400, 401, (-1)] : List Int))).bind fun bt345 => (some (bt345.1, t331, t332, t333, bt345.2.1, bt345.2.2))) else (if t339 = 1 then ((spec_l01PickInt.f s0_0 t340 t341 (([(-1), 20, 21] : List Int))).bind fun bt351 => (some (t330, bt351.1, t332, t333, bt351.2.1, bt351.2.2))) else (if t339 = 2 then (if (t333.length : Int) > 1 then (if 0 < (t333.length : Int) then (if 0 ≤ (wrap64 ((t333.length : Int) - 1)) then (if (wrap64 ((t333.length : Int) - 1)) < (t333.length : Int) then (some (t330, t331, t332, (t333.set ((wrap64 ((t333.length : Int) - 1)) : Int).toNat (⟨(rd_T53 t333 0).f0, (rd_T53 t333 (wrap64 ((t333.length : Int) - 1))).f1, (rd_T53 t333 (wrap64 ((t333.length : Int) - 1))).f2⟩ : S53)), t340, t341)) else (none)) else (none)) else (none)) else (some (t330, t331, t332, t333, t340, t341))) else (if t339 = 3 then (if (t333.length : Int) > 0 then (if 0 ≤ (wrap64 ((t333.length : Int) - 1)) then (if (wrap64 ((t333.length : Int) - 1)) < (t333.length : Int) then ((spec_l01PickInt.f s0_0 t340 t341 (([1, (-1), 9] : List Int))).bind fun bt360 => (some (t330, t331, t332, (t333.set ((wrap64 ((t333.length : Int) - 1)) : Int).toNat (⟨(rd_T53 t333 (wrap64 ((t333.length : Int) - 1))).f0, wrap64 (((rd_T53 t333 (wrap64 ((t333.length : Int) - 1))).f1) + bt360.1), (rd_T53 t333 (wrap64 ((t333.length : Int) - 1))).f2⟩ : S53)), bt360.2.1, bt360.2.2))) else (none)) else (none)) else (some (t330, t331, t332, t333, t340, t341))) else (if t339 = 4 then (if (t333.length : Int) > 0 then ((spec_l01PickInt.f s0_0 t340 t341 (([0, 61, 60, (-1)] : List Int))).bind fun bt367 => (if 0 < (t333.length : Int) then (some (t330, t331, t332, (t333.set (0 : Int).toNat (⟨(rd_T53 t333 0).f0, (rd_T53 t333 0).f1, bt367.1⟩ : S53)), bt367.2.1, bt367.2.2)) else (none))) else (some (t330, t331, t332, t333, t340, t341))) else (if t339 = 5 then (spec_l02Any.l0 k 0 s0_0 t340 t341 400 0 false ([] : List (S53))) else (some (t330, t331, t332, t333, t340, t341)))))))) = some (r1, r2, r3, r4, r5, r6) := H
 have A3 := uD A30
 clear A30
 by_cases c4 : t339 = 0
 ·rw [if_pos c4] at H
  have c4b0 : (t339 == 0) = true := beq_iff_eq.mpr c4
  have c4b1 : (t339 != 0) = false := bne_eq_false_iff_eq.mpr c4
  clear c4
  obtain ⟨y342, hy342⟩ : ∃ y_ : List Int, y_ = (([0, 400, 401, (-1)] : List Int)) := ⟨_, rfl⟩
  replace H : ((spec_l01PickInt.f s0_0 t340 t341 y342).bind fun bt345 => (some (bt345.1, t331, t332, t333, bt345.2.1, bt345.2.2))) = some (r1, r2, r3, r4, r5, r6) := by first | (rw [hy342]; with_reducible exact H) | (have H2_ := (Option.bind_some _ _).symm.trans H; rw [hy342]; with_reducible exact H2_) | (have H2_ := (Option.bind_some _ _).symm.trans H; with_reducible exact H2_) | with_reducible exact H | (rw [hy342]; exact H) | exact H
  have Ny342 := uD hy342
  clear hy342
  replace H := Option.bind_eq_some_iff.mp H
  obtain ⟨⟨t345, t346, t347⟩, A50, H⟩ := H
  replace H : (some (t345, t331, t332, t333, t346, t347)) = some (r1, r2, r3, r4, r5, r6) := H
  have A5 := uD A50
  clear A50
  simp only [Option.some.injEq, Prod.mk.injEq] at H
  obtain ⟨rfl, rfl, rfl, rfl, rfl, rfl⟩ := H
  go_enter Try.func66, Try.ntmps66
  go_wp2_with (first | ((with_reducible refine gate_dst (N := 2) rfl ?_); refine bx 2 #[.int .i64 0, .int .i64 0, .bool false, .slice none 0 0] 29 ?_; intro gb329 hg w6 hbox hb; replace HB := uD (uO (pB HB (IsS85.ge HI0.out)) hb); have BK329 := uD (hbox); have GW329 := uD ((by rw [hg]; exact (keep_size (w := w) (g := g) (row := none) (ph HK)) : w.heap.size ≤ gb329)); have GE329 := uD ((Nat.le_trans HW0.out (by rw [hg]; exact (keep_size (w := w) (g := g) (row := none) (ph HK)) : w.heap.size ≤ gb329) : w0.heap.size ≤ gb329)); replace HK := uD (KeepBut.trans (ph HK) (KeepBut.of_below hb g none) (.inl rfl)); have NB0_329 := uD ((by rw [hg]; exact Nat.ne_of_lt (IsS85.lt (show IsS85 w0 _ g s0_0 s0_1 s0_2 from IsS85.p HI0)) : g ≠ gb329)); have NB329_0 := uD ((by rw [hg]; exact Nat.ne_of_gt (IsS85.lt (show IsS85 w0 _ g s0_0 s0_1 s0_2 from IsS85.p HI0)) : gb329 ≠ g)); replace HI0 := uD (IsS85.below (IsS85.p HI0) hb); clear hb hbox hg) | ((with_reducible refine gate_callee (f := 74) rfl ?_); refine gl (some 7) Try.func74 #[.pointer (some ⟨g, 0, none⟩)] ?_; (with_reducible refine (spec_l02Belt.calls k g s0_0 s0_1 s0_2 t330 t331 t332 t333 t336 t337 w0 _ ?side1 ?side2 A2.out).mono ?_); (case side1 => exact IsS85.p HI0); (case side2 => exact pB HB (IsS85.ge HI0.out)); rintro e w7 ⟨v334, rfl, ho0, hi, hb, hk⟩; refine ⟨_, rfl, ?_⟩; replace BK329 := uD (KeepBut.blk hk (pk BK329) NB329_0.out (by simp)); have HO335 := uD (Kd.R_lower ho0 (keep_size (w := w) (g := g) (row := none) (ph HK))); replace HK := uD (KeepBut.trans (ph HK) hk (.inl rfl)); replace HB := uD (hb); replace HI0 := uD (hi); (try clear hb); (try clear hb2); (try clear hk); (try clear hi); (try clear ho0)) | ((with_reducible refine gate_dst (N := 3) rfl ?_); refine bx 3 #[.int .i64 0, .int .i64 0, .bool false, .slice none 0 0] 29 ?_; intro gb338 hg w8 hbox hb; replace HO335 := uD (Kd.R_below (pr HO335) hb); replace HB := uD (uO (pB HB (IsS85.ge HI0.out)) hb); have BK338 := uD (hbox); have GW338 := uD ((by rw [hg]; exact (keep_size (w := w) (g := g) (row := none) (ph HK)) : w.heap.size ≤ gb338)); have GE338 := uD ((Nat.le_trans HW0.out (by rw [hg]; exact (keep_size (w := w) (g := g) (row := none) (ph HK)) : w.heap.size ≤ gb338) : w0.heap.size ≤ gb338)); replace HK := uD (KeepBut.trans (ph HK) (KeepBut.of_below hb g none) (.inl rfl)); have NB329_338 := uD ((by rw [hg]; exact Nat.ne_of_lt (blk_lt (pk BK329)) : gb329 ≠ gb338)); have NB338_329 := uD ((by rw [hg]; exact Nat.ne_of_gt (blk_lt (pk BK329)) : gb338 ≠ gb329)); replace BK329 := uD (blk_below (pk BK329) hb); have NB0_338 := uD ((by rw [hg]; exact Nat.ne_of_lt (IsS85.lt (show IsS85 w0 _ g s0_0 t336 t337 from IsS85.p HI0)) : g ≠ gb338)); have NB338_0 := uD ((by rw [hg]; exact Nat.ne_of_gt (IsS85.lt (show IsS85 w0 _ g s0_0 t336 t337 from IsS85.p HI0)) : gb338 ≠ g)); replace HI0 := uD (IsS85.below (IsS85.p HI0) hb); clear hb hbox hg; have hnb9 := NB338_329.out; have hnc9 := NB329_338.out; have hnb10 := NB338_0.out; have hnc10 := NB0_338.out; obtain ⟨hcz11_0, hcz11_1, hcz11_2, hcz11_3, hfz11_0, hfz11_1, hfz11_2, hfz11_3⟩ := cz4 BK338; obtain ⟨Ao12, co12, eo12⟩ := Kd.R_slice HO335.out; subst eo12) | ((with_reducible refine gate_callee (f := 75) rfl ?_); refine gl (some 12) Try.func75 #[.pointer (some ⟨g, 0, none⟩), .int .i64 18] ?_; (with_reducible refine (spec_l01Below.calls g s0_0 t336 t337 18 t339 t340 t341 w0 _ ?side1 ?side2 A3.out).mono ?_); (case side1 => exact IsS85.p HI0); (case side2 => exact pB HB (IsS85.ge HI0.out)); rintro e w13 ⟨rfl, hi, hb, hk⟩; refine ⟨_, rfl, ?_⟩; replace BK329 := uD (KeepBut.blk hk (g' := gb329) (o := .cells #[.int .i64 0, .int .i64 0, .bool false, .slice none 0 0] 29 (0, 0)) (by exact ps BK329) NB329_0.out (by simp)); replace HO335 := uD (uX (Kd.R_keep (IsS85.apart (show IsS85 w0 _ g s0_0 t336 t337 from IsS85.p HI0) (by (with_reducible repeat (first | apply uU | apply uS | apply uT)); exact (uX (uV (p := ⟨gb338, 3, none⟩) (uV (p := ⟨gb338, 2, none⟩) (uV (p := ⟨gb338, 1, none⟩) (uV (p := ⟨gb338, 0, none⟩) (uW HO335.out BK338.out (by decide)) (fun _ hk => hk.2) (.int .i64 t330)) (fun _ hk => hk.2) (.int .i64 t331)) (fun _ hk => hk.2) (.bool t332)) (fun _ hk => hk.2) (.slice Ao12 t333.length co12)) (fun _ h_ => h_.1))) (by decide)) hk (fun _ h => h.2)) (fun _ h => h.1)); replace BK338 := uD (KeepBut.blk hk (g' := gb338) (o := .cells #[.int .i64 t330, .int .i64 t331, .bool t332, .slice Ao12 t333.length co12] 29 (0, 0)) (by (with_reducible repeat first|apply uH|apply uJ|apply uG); refine uP (cs := #[.int .i64 t330, .int .i64 t331, .bool t332, .slice none 0 0]) ?_ 3 _ rfl; (with_reducible repeat first|apply uH|apply uJ|apply uG); refine uP (cs := #[.int .i64 t330, .int .i64 t331, .bool false, .slice none 0 0]) ?_ 2 _ rfl; (with_reducible repeat first|apply uH|apply uJ|apply uG); refine uP (cs := #[.int .i64 t330, .int .i64 0, .bool false, .slice none 0 0]) ?_ 1 _ rfl; (with_reducible repeat first|apply uH|apply uJ|apply uG); refine uP (cs := #[.int .i64 0, .int .i64 0, .bool false, .slice none 0 0]) ?_ 0 _ rfl; (with_reducible repeat first|apply uH|apply uJ|apply uG); exact BK338.out) NB338_0.out (by simp)); replace HK := uD (KeepBut.trans (ph HK) hk (.inl rfl)); replace HB := uD (hb); replace HI0 := uD (hi); (try clear hb); (try clear hb2); (try clear hk); (try clear hi)) | ((with_reducible refine gate_dst (N := 16) rfl ?_); refine Kd.R_lit (Kd.int .i64) _ 3 ?hg (N := 16) ?hd (xs := ([0, 400, 401, (-1)] : List Int)) (inner := [.int .i64 0, .int .i64 400, .int .i64 401, .int .i64 (-1)]) (ok := fun _ => True) (okp := fun _ => True) ?hr ?hp (fun _ hk => hk) trivial (Below.refl _ _) (Nat.le_refl _) (by simp) ?_; (case hd => rfl); (case hg => rfl); (case hr => first | (go_simp; done) | (go_simp; rfl)); (case hp => exact (Reps.one (show Kd.M (Kd.int .i64) _ _ _ 0 [.int .i64 0] from rfl) (Reps.one (show Kd.M (Kd.int .i64) _ _ _ 400 [.int .i64 400] from rfl) (Reps.one (show Kd.M (Kd.int .i64) _ _ _ 401 [.int .i64 401] from rfl) (Reps.one (show Kd.M (Kd.int .i64) _ _ _ (-1) [.int .i64 (-1)] from rfl) (Reps.none _ _)))))); intro v343 w14 ho15 hb hg_ hnew_; clear hg_ hnew_; (first | rw [← Ny342.out] at ho15 | (simp only [Int.reduceToNat] at ho15; rw [← Ny342.out] at ho15)); replace HO335 := uD (Kd.R_below (pr HO335) hb); have HO344 := uD (Kd.R_lower ho15 (keep_size (w := w) (g := g) (row := none) (ph HK))); replace BK329 := uD (blk_below (pk BK329) hb); replace BK338 := uD (blk_below (pk BK338) hb); replace HK := uD (KeepBut.trans (ph HK) (KeepBut.of_below hb g none) (.inl rfl)); replace HB := uD (uO (pB HB (IsS85.ge HI0.out)) hb); replace HI0 := uD (IsS85.below (IsS85.p HI0) hb); clear hb ho15; obtain ⟨Ao16, co16, eo16⟩ := Kd.R_slice HO344.out; subst eo16) | ((with_reducible refine gate_callee (f := 67) rfl ?_); refine gl (some 17) Try.func67 #[.pointer (some ⟨g, 0, none⟩), .slice Ao16 y342.length co16] ?_; (with_reducible refine (spec_l01PickInt.calls g s0_0 t340 t341 _ _ y342 t345 t346 t347 w0 _ ?side1 ?side2 ?side3 ?side4 ?side5 A5.out).mono ?_); (case side1 => exact IsS85.p HI0); (case side2 => exact pB HB (IsS85.ge HI0.out)); (case side3 => exact pc ((Kd.R_reads' HO344.out).2.2)); (case side4 => exact (Kd.R_reads' HO344.out).2.1); (case side5 => exact far_slice (IsS85.own_ne HI0.out HO344.out (by decide))); rintro e w17 ⟨rfl, hi, hb, hk⟩; refine ⟨_, rfl, ?_⟩; replace BK329 := uD (KeepBut.blk hk (pk BK329) NB329_0.out (by simp)); replace HO335 := uD (uX (Kd.R_keep (IsS85.apart (show IsS85 w0 _ g s0_0 t340 t341 from IsS85.p HI0) (pr HO335) (by decide)) hk (fun _ h => h.2)) (fun _ h => h.1)); replace BK338 := uD (KeepBut.blk hk (pk BK338) NB338_0.out (by simp)); replace HO344 := uD (uX (Kd.R_keep (IsS85.apart (show IsS85 w0 _ g s0_0 t340 t341 from IsS85.p HI0) (pr HO344) (by decide)) hk (fun _ h => h.2)) (fun _ h => h.1)); replace HK := uD (KeepBut.trans (ph HK) hk (.inl rfl)); replace HB := uD (hb); replace HI0 := uD (hi); (try clear hb); (try clear hb2); (try clear hk); (try clear hi); obtain ⟨hcz18_0, hcz18_1, hcz18_2, hcz18_3, hfz18_0, hfz18_1, hfz18_2, hfz18_3⟩ := cz4 BK338; have hnb19 := NB329_0.out; have hnc19 := NB0_329.out; obtain ⟨hcz20_0, hcz20_1, hcz20_2, hcz20_3, hfz20_0, hfz20_1, hfz20_2, hfz20_3⟩ := cz4 BK329))
  refine bodyPost_ret (results_cell_row rfl _ _ gb329 29 #[.int .i64 t345, .int .i64 t331, .bool t332, .slice Ao12 t333.length co12] (0, 0) _ rfl (by (with_reducible repeat first|apply uH|apply uJ|apply uG); refine uP (cs := #[.int .i64 t345, .int .i64 t331, .bool t332, .slice none 0 0]) ?_ 3 _ rfl; (with_reducible repeat first|apply uH|apply uJ|apply uG); refine uP (cs := #[.int .i64 t345, .int .i64 t331, .bool false, .slice none 0 0]) ?_ 2 _ rfl; (with_reducible repeat first|apply uH|apply uJ|apply uG); refine uP (cs := #[.int .i64 t345, .int .i64 0, .bool false, .slice none 0 0]) ?_ 1 _ rfl; (with_reducible repeat first|apply uH|apply uJ|apply uG); refine uP (cs := #[.int .i64 0, .int .i64 0, .bool false, .slice none 0 0]) ?_ 0 _ rfl; exact ps BK329) Try.underlying29 rfl (by kernel_rfl)) rfl ?_
  exact ⟨_, by first | rfl | (simp [errW_none, errW_some] <;> rfl) | (simp [*, errW_none, errW_some] <;> rfl), by (with_reducible repeat (first | apply uU | apply uS | apply uT)); exact uX (uV (p := ⟨gb329, 3, none⟩) (uV (p := ⟨gb329, 2, none⟩) (uV (p := ⟨gb329, 1, none⟩) (uV (p := ⟨gb329, 0, none⟩) (uV (p := ⟨gb338, 0, none⟩) (uW (uW HO335.out BK338.out (by decide)) BK329.out (by decide)) (fun _ hk => hk.1.2) (.int .i64 t345)) (fun _ hk => hk.2) (.int .i64 t345)) (fun _ hk => hk.2) (.int .i64 t331)) (fun _ hk => hk.2) (.bool t332)) (fun _ hk => hk.2) (.slice Ao12 t333.length co12)) (fun _ hk => trivial), IsS85.p HI0, pB HB (IsS85.ge HI0.out), ph HK⟩
 ·rw [if_neg c4] at H
  have c4b0 : (t339 == 0) = false := beq_eq_false_iff_ne.mpr c4
  have c4b1 : (t339 != 0) = true := bne_iff_ne.mpr c4
  by_cases c21 : t339 = 1
  ·rw [if_pos c21] at H
   have c21b0 : (t339 == 1) = true := beq_iff_eq.mpr c21
   have c21b1 : (t339 != 1) = false := bne_eq_false_iff_eq.mpr c21
   clear c21
   obtain ⟨y348, hy348⟩ : ∃ y_ : List Int, y_ = (([(-1), 20, 21] : List Int)) := ⟨_, rfl⟩
   replace H : ((spec_l01PickInt.f s0_0 t340 t341 y348).bind fun bt351 => (some (t330, bt351.1, t332, t333, bt351.2.1, bt351.2.2))) = some (r1, r2, r3, r4, r5, r6) := by first | (rw [hy348]; with_reducible exact H) | (have H2_ := (Option.bind_some _ _).symm.trans H; rw [hy348]; with_reducible exact H2_) | (have H2_ := (Option.bind_some _ _).symm.trans H; with_reducible exact H2_) | with_reducible exact H | (rw [hy348]; exact H) | exact H
   have Ny348 := uD hy348
   clear hy348
   replace H := Option.bind_eq_some_iff.mp H
   obtain ⟨⟨t351, t352, t353⟩, A220, H⟩ := H
   replace H : (some (t330, t351, t332, t333, t352, t353)) = some (r1, r2, r3, r4, r5, r6) := H
   have A22 := uD A220
   clear A220
   simp only [Option.some.injEq, Prod.mk.injEq] at H
   obtain ⟨rfl, rfl, rfl, rfl, rfl, rfl⟩ := H
   go_enter Try.func66, Try.ntmps66
   go_wp2_with (first | ((with_reducible refine gate_dst (N := 2) rfl ?_); refine bx 2 #[.int .i64 0, .int .i64 0, .bool false, .slice none 0 0] 29 ?_; intro gb329 hg w23 hbox hb; replace HB := uD (uO (pB HB (IsS85.ge HI0.out)) hb); have BK329 := uD (hbox); have GW329 := uD ((by rw [hg]; exact (keep_size (w := w) (g := g) (row := none) (ph HK)) : w.heap.size ≤ gb329)); have GE329 := uD ((Nat.le_trans HW0.out (by rw [hg]; exact (keep_size (w := w) (g := g) (row := none) (ph HK)) : w.heap.size ≤ gb329) : w0.heap.size ≤ gb329)); replace HK := uD (KeepBut.trans (ph HK) (KeepBut.of_below hb g none) (.inl rfl)); have NB0_329 := uD ((by rw [hg]; exact Nat.ne_of_lt (IsS85.lt (show IsS85 w0 _ g s0_0 s0_1 s0_2 from IsS85.p HI0)) : g ≠ gb329)); have NB329_0 := uD ((by rw [hg]; exact Nat.ne_of_gt (IsS85.lt (show IsS85 w0 _ g s0_0 s0_1 s0_2 from IsS85.p HI0)) : gb329 ≠ g)); replace HI0 := uD (IsS85.below (IsS85.p HI0) hb); clear hb hbox hg) | ((with_reducible refine gate_callee (f := 74) rfl ?_); refine gl (some 7) Try.func74 #[.pointer (some ⟨g, 0, none⟩)] ?_; (with_reducible refine (spec_l02Belt.calls k g s0_0 s0_1 s0_2 t330 t331 t332 t333 t336 t337 w0 _ ?side1 ?side2 A2.out).mono ?_); (case side1 => exact IsS85.p HI0); (case side2 => exact pB HB (IsS85.ge HI0.out)); rintro e w24 ⟨v334, rfl, ho0, hi, hb, hk⟩; refine ⟨_, rfl, ?_⟩; replace BK329 := uD (KeepBut.blk hk (pk BK329) NB329_0.out (by simp)); have HO335 := uD (Kd.R_lower ho0 (keep_size (w := w) (g := g) (row := none) (ph HK))); replace HK := uD (KeepBut.trans (ph HK) hk (.inl rfl)); replace HB := uD (hb); replace HI0 := uD (hi); (try clear hb); (try clear hb2); (try clear hk); (try clear hi); (try clear ho0)) | ((with_reducible refine gate_dst (N := 3) rfl ?_); refine bx 3 #[.int .i64 0, .int .i64 0, .bool false, .slice none 0 0] 29 ?_; intro gb338 hg w25 hbox hb; replace HO335 := uD (Kd.R_below (pr HO335) hb); replace HB := uD (uO (pB HB (IsS85.ge HI0.out)) hb); have BK338 := uD (hbox); have GW338 := uD ((by rw [hg]; exact (keep_size (w := w) (g := g) (row := none) (ph HK)) : w.heap.size ≤ gb338)); have GE338 := uD ((Nat.le_trans HW0.out (by rw [hg]; exact (keep_size (w := w) (g := g) (row := none) (ph HK)) : w.heap.size ≤ gb338) : w0.heap.size ≤ gb338)); replace HK := uD (KeepBut.trans (ph HK) (KeepBut.of_below hb g none) (.inl rfl)); have NB329_338 := uD ((by rw [hg]; exact Nat.ne_of_lt (blk_lt (pk BK329)) : gb329 ≠ gb338)); have NB338_329 := uD ((by rw [hg]; exact Nat.ne_of_gt (blk_lt (pk BK329)) : gb338 ≠ gb329)); replace BK329 := uD (blk_below (pk BK329) hb); have NB0_338 := uD ((by rw [hg]; exact Nat.ne_of_lt (IsS85.lt (show IsS85 w0 _ g s0_0 t336 t337 from IsS85.p HI0)) : g ≠ gb338)); have NB338_0 := uD ((by rw [hg]; exact Nat.ne_of_gt (IsS85.lt (show IsS85 w0 _ g s0_0 t336 t337 from IsS85.p HI0)) : gb338 ≠ g)); replace HI0 := uD (IsS85.below (IsS85.p HI0) hb); clear hb hbox hg; have hnb26 := NB338_329.out; have hnc26 := NB329_338.out; have hnb27 := NB338_0.out; have hnc27 := NB0_338.out; obtain ⟨hcz28_0, hcz28_1, hcz28_2, hcz28_3, hfz28_0, hfz28_1, hfz28_2, hfz28_3⟩ := cz4 BK338; obtain ⟨Ao29, co29, eo29⟩ := Kd.R_slice HO335.out; subst eo29) | ((with_reducible refine gate_callee (f := 75) rfl ?_); refine gl (some 12) Try.func75 #[.pointer (some ⟨g, 0, none⟩), .int .i64 18] ?_; (with_reducible refine (spec_l01Below.calls g s0_0 t336 t337 18 t339 t340 t341 w0 _ ?side1 ?side2 A3.out).mono ?_); (case side1 => exact IsS85.p HI0); (case side2 => exact pB HB (IsS85.ge HI0.out)); rintro e w30 ⟨rfl, hi, hb, hk⟩; refine ⟨_, rfl, ?_⟩; replace BK329 := uD (KeepBut.blk hk (g' := gb329) (o := .cells #[.int .i64 0, .int .i64 0, .bool false, .slice none 0 0] 29 (0, 0)) (by exact ps BK329) NB329_0.out (by simp)); replace HO335 := uD (uX (Kd.R_keep (IsS85.apart (show IsS85 w0 _ g s0_0 t336 t337 from IsS85.p HI0) (by (with_reducible repeat (first | apply uU | apply uS | apply uT)); exact (uX (uV (p := ⟨gb338, 3, none⟩) (uV (p := ⟨gb338, 2, none⟩) (uV (p := ⟨gb338, 1, none⟩) (uV (p := ⟨gb338, 0, none⟩) (uW HO335.out BK338.out (by decide)) (fun _ hk => hk.2) (.int .i64 t330)) (fun _ hk => hk.2) (.int .i64 t331)) (fun _ hk => hk.2) (.bool t332)) (fun _ hk => hk.2) (.slice Ao29 t333.length co29)) (fun _ h_ => h_.1))) (by decide)) hk (fun _ h => h.2)) (fun _ h => h.1)); replace BK338 := uD (KeepBut.blk hk (g' := gb338) (o := .cells #[.int .i64 t330, .int .i64 t331, .bool t332, .slice Ao29 t333.length co29] 29 (0, 0)) (by (with_reducible repeat first|apply uH|apply uJ|apply uG); refine uP (cs := #[.int .i64 t330, .int .i64 t331, .bool t332, .slice none 0 0]) ?_ 3 _ rfl; (with_reducible repeat first|apply uH|apply uJ|apply uG); refine uP (cs := #[.int .i64 t330, .int .i64 t331, .bool false, .slice none 0 0]) ?_ 2 _ rfl; (with_reducible repeat first|apply uH|apply uJ|apply uG); refine uP (cs := #[.int .i64 t330, .int .i64 0, .bool false, .slice none 0 0]) ?_ 1 _ rfl; (with_reducible repeat first|apply uH|apply uJ|apply uG); refine uP (cs := #[.int .i64 0, .int .i64 0, .bool false, .slice none 0 0]) ?_ 0 _ rfl; (with_reducible repeat first|apply uH|apply uJ|apply uG); exact BK338.out) NB338_0.out (by simp)); replace HK := uD (KeepBut.trans (ph HK) hk (.inl rfl)); replace HB := uD (hb); replace HI0 := uD (hi); (try clear hb); (try clear hb2); (try clear hk); (try clear hi)) | ((with_reducible refine gate_dst (N := 22) rfl ?_); refine Kd.R_lit (Kd.int .i64) _ 3 ?hg (N := 22) ?hd (xs := ([(-1), 20, 21] : List Int)) (inner := [.int .i64 (-1), .int .i64 20, .int .i64 21]) (ok := fun _ => True) (okp := fun _ => True) ?hr ?hp (fun _ hk => hk) trivial (Below.refl _ _) (Nat.le_refl _) (by simp) ?_; (case hd => rfl); (case hg => rfl); (case hr => first | (go_simp; done) | (go_simp; rfl)); (case hp => exact (Reps.one (show Kd.M (Kd.int .i64) _ _ _ (-1) [.int .i64 (-1)] from rfl) (Reps.one (show Kd.M (Kd.int .i64) _ _ _ 20 [.int .i64 20] from rfl) (Reps.one (show Kd.M (Kd.int .i64) _ _ _ 21 [.int .i64 21] from rfl) (Reps.none _ _))))); intro v349 w31 ho32 hb hg_ hnew_; clear hg_ hnew_; (first | rw [← Ny348.out] at ho32 | (simp only [Int.reduceToNat] at ho32; rw [← Ny348.out] at ho32)); replace HO335 := uD (Kd.R_below (pr HO335) hb); have HO350 := uD (Kd.R_lower ho32 (keep_size (w := w) (g := g) (row := none) (ph HK))); replace BK329 := uD (blk_below (pk BK329) hb); replace BK338 := uD (blk_below (pk BK338) hb); replace HK := uD (KeepBut.trans (ph HK) (KeepBut.of_below hb g none) (.inl rfl)); replace HB := uD (uO (pB HB (IsS85.ge HI0.out)) hb); replace HI0 := uD (IsS85.below (IsS85.p HI0) hb); clear hb ho32; obtain ⟨Ao33, co33, eo33⟩ := Kd.R_slice HO350.out; subst eo33) | ((with_reducible refine gate_callee (f := 67) rfl ?_); refine gl (some 23) Try.func67 #[.pointer (some ⟨g, 0, none⟩), .slice Ao33 y348.length co33] ?_; (with_reducible refine (spec_l01PickInt.calls g s0_0 t340 t341 _ _ y348 t351 t352 t353 w0 _ ?side1 ?side2 ?side3 ?side4 ?side5 A22.out).mono ?_); (case side1 => exact IsS85.p HI0); (case side2 => exact pB HB (IsS85.ge HI0.out)); (case side3 => exact pc ((Kd.R_reads' HO350.out).2.2)); (case side4 => exact (Kd.R_reads' HO350.out).2.1); (case side5 => exact far_slice (IsS85.own_ne HI0.out HO350.out (by decide))); rintro e w34 ⟨rfl, hi, hb, hk⟩; refine ⟨_, rfl, ?_⟩; replace BK329 := uD (KeepBut.blk hk (pk BK329) NB329_0.out (by simp)); replace HO335 := uD (uX (Kd.R_keep (IsS85.apart (show IsS85 w0 _ g s0_0 t340 t341 from IsS85.p HI0) (pr HO335) (by decide)) hk (fun _ h => h.2)) (fun _ h => h.1)); replace BK338 := uD (KeepBut.blk hk (pk BK338) NB338_0.out (by simp)); replace HO350 := uD (uX (Kd.R_keep (IsS85.apart (show IsS85 w0 _ g s0_0 t340 t341 from IsS85.p HI0) (pr HO350) (by decide)) hk (fun _ h => h.2)) (fun _ h => h.1)); replace HK := uD (KeepBut.trans (ph HK) hk (.inl rfl)); replace HB := uD (hb); replace HI0 := uD (hi); (try clear hb); (try clear hb2); (try clear hk); (try clear hi); obtain ⟨hcz35_0, hcz35_1, hcz35_2, hcz35_3, hfz35_0, hfz35_1, hfz35_2, hfz35_3⟩ := cz4 BK338; have hnb36 := NB329_0.out; have hnc36 := NB0_329.out; obtain ⟨hcz37_0, hcz37_1, hcz37_2, hcz37_3, hfz37_0, hfz37_1, hfz37_2, hfz37_3⟩ := cz4 BK329))
   refine bodyPost_ret (results_cell_row rfl _ _ gb329 29 #[.int .i64 t330, .int .i64 t351, .bool t332, .slice Ao29 t333.length co29] (0, 0) _ rfl (by (with_reducible repeat first|apply uH|apply uJ|apply uG); refine uP (cs := #[.int .i64 t330, .int .i64 t351, .bool t332, .slice none 0 0]) ?_ 3 _ rfl; (with_reducible repeat first|apply uH|apply uJ|apply uG); refine uP (cs := #[.int .i64 t330, .int .i64 t351, .bool false, .slice none 0 0]) ?_ 2 _ rfl; (with_reducible repeat first|apply uH|apply uJ|apply uG); refine uP (cs := #[.int .i64 t330, .int .i64 0, .bool false, .slice none 0 0]) ?_ 1 _ rfl; (with_reducible repeat first|apply uH|apply uJ|apply uG); refine uP (cs := #[.int .i64 0, .int .i64 0, .bool false, .slice none 0 0]) ?_ 0 _ rfl; exact ps BK329) Try.underlying29 rfl (by kernel_rfl)) rfl ?_
   exact ⟨_, by first | rfl | (simp [errW_none, errW_some] <;> rfl) | (simp [*, errW_none, errW_some] <;> rfl), by (with_reducible repeat (first | apply uU | apply uS | apply uT)); exact uX (uV (p := ⟨gb329, 3, none⟩) (uV (p := ⟨gb329, 2, none⟩) (uV (p := ⟨gb329, 1, none⟩) (uV (p := ⟨gb329, 0, none⟩) (uV (p := ⟨gb338, 1, none⟩) (uW (uW HO335.out BK338.out (by decide)) BK329.out (by decide)) (fun _ hk => hk.1.2) (.int .i64 t351)) (fun _ hk => hk.2) (.int .i64 t330)) (fun _ hk => hk.2) (.int .i64 t351)) (fun _ hk => hk.2) (.bool t332)) (fun _ hk => hk.2) (.slice Ao29 t333.length co29)) (fun _ hk => trivial), IsS85.p HI0, pB HB (IsS85.ge HI0.out), ph HK⟩
  ·rw [if_neg c21] at H
   have c21b0 : (t339 == 1) = false := beq_eq_false_iff_ne.mpr c21
   have c21b1 : (t339 != 1) = true := bne_iff_ne.mpr c21
   by_cases c38 : t339 = 2
   ·rw [if_pos c38] at H
    have c38b0 : (t339 == 2) = true := beq_iff_eq.mpr c38
    have c38b1 : (t339 != 2) = false := bne_eq_false_iff_eq.mpr c38
    clear c38
    by_cases c39 : (t333.length : Int) > 1
    ·rw [if_pos c39] at H
     have c39b0 : decide (1 < (t333.length : Int)) = true := decide_eq_true c39
     have c39b1 : decide (1 < t333.length) = true := decide_eq_true (by omega)
     clear c39
     by_cases c40 : 0 < (t333.length : Int)
     ·rw [if_pos c40] at H
      have c40b0 : decide (0 < (t333.length : Int)) = true := decide_eq_true c40
      have c40b1 : decide (0 < t333.length) = true := decide_eq_true (by omega)
      clear c40
      obtain ⟨ji41, hji41⟩ : ∃ j_ : Int, (wrap64 ((t333.length : Int) - 1)) = j_ := ⟨_, rfl⟩
      replace H : (if 0 ≤ (ji41) then (if (ji41) < (t333.length : Int) then (some (t330, t331, t332, (t333.set ((ji41) : Int).toNat (⟨(rd_T53 t333 0).f0, (rd_T53 t333 (ji41)).f1, (rd_T53 t333 (ji41)).f2⟩ : S53)), t340, t341)) else (none)) else (none)) = some (r1, r2, r3, r4, r5, r6) := by first | (rw [hji41] at H; exact H) | (simp only [hji41] at H ⊢; exact H)
      (try rw [hji41] at A2)
      (try rw [hji41] at A3)
      have hji41w : (IntKind.i64.wrap ((t333.length : Int) - 1)) = ji41 := (uZ _).trans hji41
      by_cases c42 : 0 ≤ (ji41)
      ·rw [if_pos c42] at H
       have c42b0 : decide (0 ≤ (ji41)) = true := decide_eq_true c42
       clear c42
       by_cases c43 : (ji41) < (t333.length : Int)
       ·rw [if_pos c43] at H
        have c43b0 : decide ((ji41) < (t333.length : Int)) = true := decide_eq_true c43
        clear c43
        obtain ⟨y355, hy355⟩ : ∃ y_ : List (S53), y_ = (t333.set ((ji41) : Int).toNat (⟨(rd_T53 t333 0).f0, (rd_T53 t333 (ji41)).f1, (rd_T53 t333 (ji41)).f2⟩ : S53)) := ⟨_, rfl⟩
        replace H : (some (t330, t331, t332, y355, t340, t341)) = some (r1, r2, r3, r4, r5, r6) := by first | (rw [hy355]; with_reducible exact H) | (have H2_ := (Option.bind_some _ _).symm.trans H; rw [hy355]; with_reducible exact H2_) | (have H2_ := (Option.bind_some _ _).symm.trans H; with_reducible exact H2_) | with_reducible exact H | (rw [hy355]; exact H) | exact H
        have Ny355 := uD hy355
        clear hy355
        simp only [Option.some.injEq, Prod.mk.injEq] at H
        obtain ⟨rfl, rfl, rfl, rfl, rfl, rfl⟩ := H
        go_enter Try.func66, Try.ntmps66
        try go_wp2_with (first | ((with_reducible refine gate_dst (N := 2) rfl ?_); refine bx 2 #[.int .i64 0, .int .i64 0, .bool false, .slice none 0 0] 29 ?_; intro gb329 hg w45 hbox hb; replace HB := uD (uO (pB HB (IsS85.ge HI0.out)) hb); have BK329 := uD (hbox); have GW329 := uD ((by rw [hg]; exact (keep_size (w := w) (g := g) (row := none) (ph HK)) : w.heap.size ≤ gb329)); have GE329 := uD ((Nat.le_trans HW0.out (by rw [hg]; exact (keep_size (w := w) (g := g) (row := none) (ph HK)) : w.heap.size ≤ gb329) : w0.heap.size ≤ gb329)); replace HK := uD (KeepBut.trans (ph HK) (KeepBut.of_below hb g none) (.inl rfl)); have NB0_329 := uD ((by rw [hg]; exact Nat.ne_of_lt (IsS85.lt (show IsS85 w0 _ g s0_0 s0_1 s0_2 from IsS85.p HI0)) : g ≠ gb329)); have NB329_0 := uD ((by rw [hg]; exact Nat.ne_of_gt (IsS85.lt (show IsS85 w0 _ g s0_0 s0_1 s0_2 from IsS85.p HI0)) : gb329 ≠ g)); replace HI0 := uD (IsS85.below (IsS85.p HI0) hb); clear hb hbox hg) | ((with_reducible refine gate_callee (f := 74) rfl ?_); refine gl (some 7) Try.func74 #[.pointer (some ⟨g, 0, none⟩)] ?_; (with_reducible refine (spec_l02Belt.calls k g s0_0 s0_1 s0_2 t330 t331 t332 t333 t336 t337 w0 _ ?side1 ?side2 A2.out).mono ?_); (case side1 => exact IsS85.p HI0); (case side2 => exact pB HB (IsS85.ge HI0.out)); rintro e w46 ⟨v334, rfl, ho0, hi, hb, hk⟩; refine ⟨_, rfl, ?_⟩; replace BK329 := uD (KeepBut.blk hk (pk BK329) NB329_0.out (by simp)); have HO335 := uD (Kd.R_lower ho0 (keep_size (w := w) (g := g) (row := none) (ph HK))); replace HK := uD (KeepBut.trans (ph HK) hk (.inl rfl)); replace HB := uD (hb); replace HI0 := uD (hi); (try clear hb); (try clear hb2); (try clear hk); (try clear hi); (try clear ho0)) | ((with_reducible refine gate_dst (N := 3) rfl ?_); refine bx 3 #[.int .i64 0, .int .i64 0, .bool false, .slice none 0 0] 29 ?_; intro gb338 hg w47 hbox hb; replace HO335 := uD (Kd.R_below (pr HO335) hb); replace HB := uD (uO (pB HB (IsS85.ge HI0.out)) hb); have BK338 := uD (hbox); have GW338 := uD ((by rw [hg]; exact (keep_size (w := w) (g := g) (row := none) (ph HK)) : w.heap.size ≤ gb338)); have GE338 := uD ((Nat.le_trans HW0.out (by rw [hg]; exact (keep_size (w := w) (g := g) (row := none) (ph HK)) : w.heap.size ≤ gb338) : w0.heap.size ≤ gb338)); replace HK := uD (KeepBut.trans (ph HK) (KeepBut.of_below hb g none) (.inl rfl)); have NB329_338 := uD ((by rw [hg]; exact Nat.ne_of_lt (blk_lt (pk BK329)) : gb329 ≠ gb338)); have NB338_329 := uD ((by rw [hg]; exact Nat.ne_of_gt (blk_lt (pk BK329)) : gb338 ≠ gb329)); replace BK329 := uD (blk_below (pk BK329) hb); have NB0_338 := uD ((by rw [hg]; exact Nat.ne_of_lt (IsS85.lt (show IsS85 w0 _ g s0_0 t336 t337 from IsS85.p HI0)) : g ≠ gb338)); have NB338_0 := uD ((by rw [hg]; exact Nat.ne_of_gt (IsS85.lt (show IsS85 w0 _ g s0_0 t336 t337 from IsS85.p HI0)) : gb338 ≠ g)); replace HI0 := uD (IsS85.below (IsS85.p HI0) hb); clear hb hbox hg; have hnb48 := NB338_329.out; have hnc48 := NB329_338.out; have hnb49 := NB338_0.out; have hnc49 := NB0_338.out; obtain ⟨hcz50_0, hcz50_1, hcz50_2, hcz50_3, hfz50_0, hfz50_1, hfz50_2, hfz50_3⟩ := cz4 BK338; obtain ⟨Ao51, co51, eo51⟩ := Kd.R_slice HO335.out; subst eo51) | ((with_reducible refine gate_callee (f := 75) rfl ?_); refine gl (some 12) Try.func75 #[.pointer (some ⟨g, 0, none⟩), .int .i64 18] ?_; (with_reducible refine (spec_l01Below.calls g s0_0 t336 t337 18 t339 t340 t341 w0 _ ?side1 ?side2 A3.out).mono ?_); (case side1 => exact IsS85.p HI0); (case side2 => exact pB HB (IsS85.ge HI0.out)); rintro e w52 ⟨rfl, hi, hb, hk⟩; refine ⟨_, rfl, ?_⟩; replace BK329 := uD (KeepBut.blk hk (g' := gb329) (o := .cells #[.int .i64 0, .int .i64 0, .bool false, .slice none 0 0] 29 (0, 0)) (by exact ps BK329) NB329_0.out (by simp)); replace HO335 := uD (uX (Kd.R_keep (IsS85.apart (show IsS85 w0 _ g s0_0 t336 t337 from IsS85.p HI0) (by (with_reducible repeat (first | apply uU | apply uS | apply uT)); exact (uX (uV (p := ⟨gb338, 3, none⟩) (uV (p := ⟨gb338, 2, none⟩) (uV (p := ⟨gb338, 1, none⟩) (uV (p := ⟨gb338, 0, none⟩) (uW HO335.out BK338.out (by decide)) (fun _ hk => hk.2) (.int .i64 t330)) (fun _ hk => hk.2) (.int .i64 t331)) (fun _ hk => hk.2) (.bool t332)) (fun _ hk => hk.2) (.slice Ao51 t333.length co51)) (fun _ h_ => h_.1))) (by decide)) hk (fun _ h => h.2)) (fun _ h => h.1)); replace BK338 := uD (KeepBut.blk hk (g' := gb338) (o := .cells #[.int .i64 t330, .int .i64 t331, .bool t332, .slice Ao51 t333.length co51] 29 (0, 0)) (by (with_reducible repeat first|apply uH|apply uJ|apply uG); refine uP (cs := #[.int .i64 t330, .int .i64 t331, .bool t332, .slice none 0 0]) ?_ 3 _ rfl; (with_reducible repeat first|apply uH|apply uJ|apply uG); refine uP (cs := #[.int .i64 t330, .int .i64 t331, .bool false, .slice none 0 0]) ?_ 2 _ rfl; (with_reducible repeat first|apply uH|apply uJ|apply uG); refine uP (cs := #[.int .i64 t330, .int .i64 0, .bool false, .slice none 0 0]) ?_ 1 _ rfl; (with_reducible repeat first|apply uH|apply uJ|apply uG); refine uP (cs := #[.int .i64 0, .int .i64 0, .bool false, .slice none 0 0]) ?_ 0 _ rfl; (with_reducible repeat first|apply uH|apply uJ|apply uG); exact BK338.out) NB338_0.out (by simp)); replace HK := uD (KeepBut.trans (ph HK) hk (.inl rfl)); replace HB := uD (hb); replace HI0 := uD (hi); (try clear hb); (try clear hb2); (try clear hk); (try clear hi)))
        replace HO335 := uD (uT HO335.out)
        replace BK329 := uD (uJ BK329.out)
        replace BK338 := uD (uJ BK338.out)
        replace HI0 := uD (IsS85.drew HI0.out)
        replace HK := uD (keep_drew HK.out)
        replace HB := uD (uK HB.out)
        have p354 : 0 ≤ (0 : Int) := (by omega)
        have q354 : 0 < (t333.length : Int) := of_decide_eq_true (by first | (with_reducible assumption) | assumption)
        obtain ⟨ad354, e354, hx354_0, hx354_1, hx354_2⟩ := at_T53 (Kd.R_reads' HO335.out).2.2 0 p354 q354
        cases e354
        have qi354 : (0 < t333.length) = True := eq_true (by omega)
        (try rw [show ((0 : Int)).toNat = 0 from rfl] at hx354_0)
        (try rw [show 0 * 3 = 0 from rfl] at hx354_0)
        (try rw [Addr.add_zero'] at hx354_0)
        (try rw [show ((0 : Int)).toNat = 0 from rfl] at hx354_1)
        (try rw [show 0 * 3 = 0 from rfl] at hx354_1)
        (try rw [Addr.add_zero'] at hx354_1)
        (try rw [show ((0 : Int)).toNat = 0 from rfl] at hx354_2)
        (try rw [show 0 * 3 = 0 from rfl] at hx354_2)
        (try rw [Addr.add_zero'] at hx354_2)
        replace p354 := eq_true p354
        replace q354 := eq_true q354
        have p44 : 0 ≤ ((ji41) : Int) := of_decide_eq_true (by first | (with_reducible assumption) | assumption)
        have q44 : ((ji41) : Int) < ((t333.length : Int) : Int) := of_decide_eq_true (by first | (with_reducible assumption) | assumption)
        obtain ⟨go44, co44, eo44, gb44, gl44, cl44, HG44⟩ := Kd.R_form HO335.out (by omega)
        (first | cases eo44 | (injection eo44 with ea_ en_ ec_; (first | subst ea_ | (injection ea_ with ea_; subst ea_)); subst ec_; clear en_))
        have GB44 := uD gb44
        have GG44 := uD HG44
        clear gb44 gl44 HG44
        (first | simp only [add_plain] at hx354_0 | skip)
        (first | simp only [add_plain] at hx354_1 | skip)
        (first | simp only [add_plain] at hx354_2 | skip)
        obtain ⟨ce44, hcl44, hM44, hcc44, hfr44⟩ := Kd.R_elem HO335.out z53 ((ji41) : Int) p44 q44
        obtain rfl := k53_openM hM44
        have hx44_0 : World.cell? _ ⟨go44, ((ji41) : Int).toNat * 3, none⟩ = some (.int .i64 ((rd_T53 t333 (ji41)).f0)) := hcc44 0 _ rfl
        have hx44_1 : World.cell? _ ⟨go44, ((ji41) : Int).toNat * 3 + 1, none⟩ = some (.int .i64 ((rd_T53 t333 (ji41)).f1)) := hcc44 1 _ rfl
        have hx44_2 : World.cell? _ ⟨go44, ((ji41) : Int).toNat * 3 + 2, none⟩ = some (.int .i64 ((rd_T53 t333 (ji41)).f2)) := hcc44 2 _ rfl
        have hf44_0 : World.frozen? _ ⟨go44, ((ji41) : Int).toNat * 3, none⟩ = false := hfr44 0
        have hf44_1 : World.frozen? _ ⟨go44, ((ji41) : Int).toNat * 3 + 1, none⟩ = false := hfr44 1
        have hf44_2 : World.frozen? _ ⟨go44, ((ji41) : Int).toNat * 3 + 2, none⟩ = false := hfr44 2
        clear hcl44 hcc44 hfr44 hM44
        replace p44 := eq_true p44
        replace q44 := eq_true q44
        have HN0_go44 := uD (show g ≠ go44 from by have h_ := IsS85.own_ne HI0.out HO335.out (by decide); intro e_; exact h_ (by rw [e_]; rfl))
        obtain ⟨ce54, hcl54, hM54, hcc54, hfr54⟩ := Kd.R_elem HO335.out z53 ((ji41) : Int) (of_decide_eq_true (by first | (with_reducible assumption) | assumption)) (by have h_ : ((ji41) : Int) < ((t333.length : Int) : Int) := of_decide_eq_true (by first | (with_reducible assumption) | assumption); first | exact h_ | (have e_ := (Kd.R_reads' HO335.out).1; omega) | simpa using h_)
        obtain rfl := k53_openM hM54
        have HP54 := (Kd.R_seg HO335.out ((ji41) : Int) (of_decide_eq_true (by first | (with_reducible assumption) | assumption)) (by have h_ : ((ji41) : Int) < ((t333.length : Int) : Int) := of_decide_eq_true (by first | (with_reducible assumption) | assumption); first | exact h_ | (have e_ := (Kd.R_reads' HO335.out).1; omega) | simpa using h_) (seg := [.int .i64 ((rd_T53 t333 0).f0)]) (j := 0) hcl54 hcc54 (show 1 ≤ 3 from by decide) (x' := (⟨(rd_T53 t333 0).f0, (rd_T53 t333 (ji41)).f1, (rd_T53 t333 (ji41)).f2⟩ : S53)) (k53_mkM _ _ _ (⟨(rd_T53 t333 0).f0, (rd_T53 t333 (ji41)).f1, (rd_T53 t333 (ji41)).f2⟩ : S53) ) (fun _ hk => hk)).1
        rw [← Ny355.out] at HP54
        have HQ54 := uD HP54
        clear hcl54 hcc54 hfr54 hM54 HP54
        refine start_ (n := 12) (S := fun w' => w'.cell? ⟨gb338, 0, none⟩ = some (.int .i64 t330) ∧ w'.cell? ⟨gb338, 1, none⟩ = some (.int .i64 t331) ∧ w'.cell? ⟨gb338, 2, none⟩ = some (.bool t332) ∧ w'.cell? ⟨gb338, 3, none⟩ = some (.slice (some ⟨go44, 0, none⟩) t333.length co51) ∧ w'.cell? ⟨go44, 0, none⟩ = some (.int .i64 ((rd_T53 t333 0).f0)) ∧ w'.cell? ⟨go44, 1, none⟩ = some (.int .i64 ((rd_T53 t333 0).f1)) ∧ w'.cell? ⟨go44, 2, none⟩ = some (.int .i64 ((rd_T53 t333 0).f2))) (ds := [11]) #[F,F,F,F,F,F,F,F,F,F,F,F] (by kernel_rfl) rfl rfl ⟨(uF BK338.out 0).trans rfl, (uF BK338.out 1).trans rfl, (uF BK338.out 2).trans rfl, (uF BK338.out 3).trans rfl, hx354_0, hx354_1, hx354_2⟩ (fun hHeld => ?_); refine with_tabW spec_l02Any.tab10 spec_l02Any.bits10 (fun HT_ HW_ => ?_)
        generalize w52.drew = w53 at HO335 BK329 BK338 HI0 HK HB GG44 HQ54 hf44_0 hf44_1 hf44_2 hx354_0 hx354_1 hx354_2 hx44_0 hx44_1 hx44_2 hHeld ⊢
        refine pu 0 (some 29) #[T,F,F,F,F,F,F,F,F,F,F,F] HT_ ?_
        refine pu 2 (some 31) #[T,F,T,F,F,F,F,F,F,F,F,F] HT_ ?_
        refine pu 3 (some 32) #[T,F,T,T,F,F,F,F,F,F,F,F] HT_ ?_
        refine pu 4 (some 33) #[T,F,T,T,T,F,F,F,F,F,F,F] HT_ ?_
        refine tk 1 (some 30) #[T,T,T,T,T,F,F,F,F,F,F,F] HT_ HW_ hHeld ?_
        refine tk 5 (some 34) #[T,T,T,T,T,T,F,F,F,F,F,F] HT_ HW_ hHeld ?_
        refine pu 6 (some 35) #[T,T,T,T,T,T,T,F,F,F,F,F] HT_ ?_
        refine pu 7 (some 36) #[T,T,T,T,T,T,T,T,F,F,F,F] HT_ ?_
        refine tk 8 (some 37) #[T,T,T,T,T,T,T,T,T,F,F,F] HT_ HW_ hHeld ?_
        refine pu 9 (some 38) #[T,T,T,T,T,T,T,T,T,T,F,F] HT_ ?_
        refine pu 10 (some 39) #[T,T,T,T,T,T,T,T,T,T,T,F] HT_ ?_
        refine last_ (i := 11) (N := none) #[T,T,T,T,T,T,T,T,T,T,T,T] rfl rfl (one_of HT_.out (by kernel_rfl)) (by decide) (fun K hK => ?_)
        refine skip_ (w1 := ?_) (by rfl) rfl ?_ ?_
        rotate_left
        ·go_simp
         rfl
        refine hK.out _ _ ?_
        clear hK K
        refine done_ (done_of HT_.out (by kernel_rfl)) ?_
        have n0_ : Aside0 (Kd.R k53 53 (w53.setCell ⟨go44, ((ji41) : Int).toNat * 3, none⟩ (.int .i64 ((rd_T53 t333 0).f0))) w.heap.size (fun _ => True) (.slice (some ⟨go44, 0, none⟩) t333.length co51) y355) := ⟨by (with_reducible repeat (first | apply uU | apply uS | apply uT)); exact HQ54.out⟩
        have n1_ : Aside0 ((w53.setCell ⟨go44, ((ji41) : Int).toNat * 3, none⟩ (.int .i64 ((rd_T53 t333 0).f0))).heap[gb329]? = some (.cells #[.int .i64 0, .int .i64 0, .bool false, .slice none 0 0] 29 (0, 0))) := ⟨by (with_reducible repeat first|apply uH|apply uJ|apply uG); refine uQ ?_ (by have h_ := Kd.R_ne HO335.out BK329.out (by decide); intro e_; exact h_ (by rw [e_]; rfl)) _; (with_reducible repeat first|apply uH|apply uJ|apply uG); exact BK329.out⟩
        have n2_ : Aside0 ((w53.setCell ⟨go44, ((ji41) : Int).toNat * 3, none⟩ (.int .i64 ((rd_T53 t333 0).f0))).heap[gb338]? = some (.cells #[.int .i64 t330, .int .i64 t331, .bool t332, .slice (some ⟨go44, 0, none⟩) t333.length co51] 29 (0, 0))) := ⟨by (with_reducible repeat first|apply uH|apply uJ|apply uG); refine uQ ?_ (by have h_ := Kd.R_ne HO335.out BK338.out (by decide); intro e_; exact h_ (by rw [e_]; rfl)) _; (with_reducible repeat first|apply uH|apply uJ|apply uG); exact BK338.out⟩
        have n3_ : Aside0 (IsS85 w0 (w53.setCell ⟨go44, ((ji41) : Int).toNat * 3, none⟩ (.int .i64 ((rd_T53 t333 0).f0))) g s0_0 t340 t341) := ⟨IsS85.p HI0⟩
        have n4_ : Aside0 (KeepBut w (w53.setCell ⟨go44, ((ji41) : Int).toNat * 3, none⟩ (.int .i64 ((rd_T53 t333 0).f0))) g none) := ⟨ph HK⟩
        have n5_ : Aside0 (Below w0.heap.size w0 (w53.setCell ⟨go44, ((ji41) : Int).toNat * 3, none⟩ (.int .i64 ((rd_T53 t333 0).f0)))) := ⟨by repeat (first | (with_reducible first | exact HB.out | apply uL | apply uE | apply uK | refine uM ?_ (Nat.le_trans HL.out GB44.out) | refine uM ?_ (IsS85.ge HI0.out) | refine uM ?_ GE329.out | refine uM ?_ GE338.out) | exact HB.out)⟩
        (try clear HO335)
        (try clear BK329)
        (try clear BK338)
        (try clear HI0)
        (try clear HK)
        (try clear HB)
        generalize (w53.setCell ⟨go44, ((ji41) : Int).toNat * 3, none⟩ (.int .i64 ((rd_T53 t333 0).f0))) = w55 at n0_ n1_ n2_ n3_ n4_ n5_ ⊢
        have HO335 := n0_
        have BK329 := n1_
        have BK338 := n2_
        have HI0 := n3_
        have HK := n4_
        have HB := n5_
        clear n0_ n1_ n2_ n3_ n4_ n5_
        obtain ⟨hcz56_0, hcz56_1, hcz56_2, hcz56_3, hfz56_0, hfz56_1, hfz56_2, hfz56_3⟩ := cz4 BK338
        have hnb57 := NB329_0.out
        have hnc57 := NB0_329.out
        obtain ⟨hcz58_0, hcz58_1, hcz58_2, hcz58_3, hfz58_0, hfz58_1, hfz58_2, hfz58_3⟩ := cz4 BK329
        try go_wp2
        refine bodyPost_ret (results_cell_row rfl _ _ gb329 29 #[.int .i64 t330, .int .i64 t331, .bool t332, .slice (some ⟨go44, 0, none⟩) t333.length co51] (0, 0) _ rfl (by (with_reducible repeat first|apply uH|apply uJ|apply uG); refine uP (cs := #[.int .i64 t330, .int .i64 t331, .bool t332, .slice none 0 0]) ?_ 3 _ rfl; (with_reducible repeat first|apply uH|apply uJ|apply uG); refine uP (cs := #[.int .i64 t330, .int .i64 t331, .bool false, .slice none 0 0]) ?_ 2 _ rfl; (with_reducible repeat first|apply uH|apply uJ|apply uG); refine uP (cs := #[.int .i64 t330, .int .i64 0, .bool false, .slice none 0 0]) ?_ 1 _ rfl; (with_reducible repeat first|apply uH|apply uJ|apply uG); refine uP (cs := #[.int .i64 0, .int .i64 0, .bool false, .slice none 0 0]) ?_ 0 _ rfl; (with_reducible repeat first|apply uH|apply uJ|apply uG); exact BK329.out) Try.underlying29 rfl (by kernel_rfl)) rfl ?_
        exact ⟨_, by first | rfl | (simp [errW_none, errW_some] <;> rfl) | (simp only [← hji41]; first | rfl | (simp [errW_none, errW_some] <;> rfl)) | (simp [*, errW_none, errW_some] <;> rfl), by (with_reducible repeat (first | apply uU | apply uS | apply uT)); exact uX (uV (p := ⟨gb329, 3, none⟩) (uV (p := ⟨gb329, 2, none⟩) (uV (p := ⟨gb329, 1, none⟩) (uV (p := ⟨gb329, 0, none⟩) (uW HO335.out BK329.out (by decide)) (fun _ hk => hk.2) (.int .i64 t330)) (fun _ hk => hk.2) (.int .i64 t331)) (fun _ hk => hk.2) (.bool t332)) (fun _ hk => hk.2) (.slice (some ⟨go44, 0, none⟩) t333.length co51)) (fun _ hk => trivial), IsS85.p HI0, pB HB (IsS85.ge HI0.out), ph HK⟩
       ·rw [if_neg c43] at H
        exact absurd H (by simp)
      ·rw [if_neg c42] at H
       exact absurd H (by simp)
     ·rw [if_neg c40] at H
      exact absurd H (by simp)
    ·rw [if_neg c39] at H
     have c39b0 : decide (1 < (t333.length : Int)) = false := decide_eq_false c39
     have c39b1 : decide (1 < t333.length) = false := decide_eq_false (by omega)
     clear c39
     simp only [Option.some.injEq, Prod.mk.injEq] at H
     obtain ⟨rfl, rfl, rfl, rfl, rfl, rfl⟩ := H
     go_enter Try.func66, Try.ntmps66
     go_wp2_with (first | ((with_reducible refine gate_dst (N := 2) rfl ?_); refine bx 2 #[.int .i64 0, .int .i64 0, .bool false, .slice none 0 0] 29 ?_; intro gb329 hg w59 hbox hb; replace HB := uD (uO (pB HB (IsS85.ge HI0.out)) hb); have BK329 := uD (hbox); have GW329 := uD ((by rw [hg]; exact (keep_size (w := w) (g := g) (row := none) (ph HK)) : w.heap.size ≤ gb329)); have GE329 := uD ((Nat.le_trans HW0.out (by rw [hg]; exact (keep_size (w := w) (g := g) (row := none) (ph HK)) : w.heap.size ≤ gb329) : w0.heap.size ≤ gb329)); replace HK := uD (KeepBut.trans (ph HK) (KeepBut.of_below hb g none) (.inl rfl)); have NB0_329 := uD ((by rw [hg]; exact Nat.ne_of_lt (IsS85.lt (show IsS85 w0 _ g s0_0 s0_1 s0_2 from IsS85.p HI0)) : g ≠ gb329)); have NB329_0 := uD ((by rw [hg]; exact Nat.ne_of_gt (IsS85.lt (show IsS85 w0 _ g s0_0 s0_1 s0_2 from IsS85.p HI0)) : gb329 ≠ g)); replace HI0 := uD (IsS85.below (IsS85.p HI0) hb); clear hb hbox hg) | ((with_reducible refine gate_callee (f := 74) rfl ?_); refine gl (some 7) Try.func74 #[.pointer (some ⟨g, 0, none⟩)] ?_; (with_reducible refine (spec_l02Belt.calls k g s0_0 s0_1 s0_2 t330 t331 t332 t333 t336 t337 w0 _ ?side1 ?side2 A2.out).mono ?_); (case side1 => exact IsS85.p HI0); (case side2 => exact pB HB (IsS85.ge HI0.out)); rintro e w60 ⟨v334, rfl, ho0, hi, hb, hk⟩; refine ⟨_, rfl, ?_⟩; replace BK329 := uD (KeepBut.blk hk (pk BK329) NB329_0.out (by simp)); have HO335 := uD (Kd.R_lower ho0 (keep_size (w := w) (g := g) (row := none) (ph HK))); replace HK := uD (KeepBut.trans (ph HK) hk (.inl rfl)); replace HB := uD (hb); replace HI0 := uD (hi); (try clear hb); (try clear hb2); (try clear hk); (try clear hi); (try clear ho0)) | ((with_reducible refine gate_dst (N := 3) rfl ?_); refine bx 3 #[.int .i64 0, .int .i64 0, .bool false, .slice none 0 0] 29 ?_; intro gb338 hg w61 hbox hb; replace HO335 := uD (Kd.R_below (pr HO335) hb); replace HB := uD (uO (pB HB (IsS85.ge HI0.out)) hb); have BK338 := uD (hbox); have GW338 := uD ((by rw [hg]; exact (keep_size (w := w) (g := g) (row := none) (ph HK)) : w.heap.size ≤ gb338)); have GE338 := uD ((Nat.le_trans HW0.out (by rw [hg]; exact (keep_size (w := w) (g := g) (row := none) (ph HK)) : w.heap.size ≤ gb338) : w0.heap.size ≤ gb338)); replace HK := uD (KeepBut.trans (ph HK) (KeepBut.of_below hb g none) (.inl rfl)); have NB329_338 := uD ((by rw [hg]; exact Nat.ne_of_lt (blk_lt (pk BK329)) : gb329 ≠ gb338)); have NB338_329 := uD ((by rw [hg]; exact Nat.ne_of_gt (blk_lt (pk BK329)) : gb338 ≠ gb329)); replace BK329 := uD (blk_below (pk BK329) hb); have NB0_338 := uD ((by rw [hg]; exact Nat.ne_of_lt (IsS85.lt (show IsS85 w0 _ g s0_0 t336 t337 from IsS85.p HI0)) : g ≠ gb338)); have NB338_0 := uD ((by rw [hg]; exact Nat.ne_of_gt (IsS85.lt (show IsS85 w0 _ g s0_0 t336 t337 from IsS85.p HI0)) : gb338 ≠ g)); replace HI0 := uD (IsS85.below (IsS85.p HI0) hb); clear hb hbox hg; have hnb62 := NB338_329.out; have hnc62 := NB329_338.out; have hnb63 := NB338_0.out; have hnc63 := NB0_338.out; obtain ⟨hcz64_0, hcz64_1, hcz64_2, hcz64_3, hfz64_0, hfz64_1, hfz64_2, hfz64_3⟩ := cz4 BK338; obtain ⟨Ao65, co65, eo65⟩ := Kd.R_slice HO335.out; subst eo65) | ((with_reducible refine gate_callee (f := 75) rfl ?_); refine gl (some 12) Try.func75 #[.pointer (some ⟨g, 0, none⟩), .int .i64 18] ?_; (with_reducible refine (spec_l01Below.calls g s0_0 t336 t337 18 t339 t340 t341 w0 _ ?side1 ?side2 A3.out).mono ?_); (case side1 => exact IsS85.p HI0); (case side2 => exact pB HB (IsS85.ge HI0.out)); rintro e w66 ⟨rfl, hi, hb, hk⟩; refine ⟨_, rfl, ?_⟩; replace BK329 := uD (KeepBut.blk hk (g' := gb329) (o := .cells #[.int .i64 0, .int .i64 0, .bool false, .slice none 0 0] 29 (0, 0)) (by exact ps BK329) NB329_0.out (by simp)); replace HO335 := uD (uX (Kd.R_keep (IsS85.apart (show IsS85 w0 _ g s0_0 t336 t337 from IsS85.p HI0) (by (with_reducible repeat (first | apply uU | apply uS | apply uT)); exact (uX (uV (p := ⟨gb338, 3, none⟩) (uV (p := ⟨gb338, 2, none⟩) (uV (p := ⟨gb338, 1, none⟩) (uV (p := ⟨gb338, 0, none⟩) (uW HO335.out BK338.out (by decide)) (fun _ hk => hk.2) (.int .i64 t330)) (fun _ hk => hk.2) (.int .i64 t331)) (fun _ hk => hk.2) (.bool t332)) (fun _ hk => hk.2) (.slice Ao65 t333.length co65)) (fun _ h_ => h_.1))) (by decide)) hk (fun _ h => h.2)) (fun _ h => h.1)); replace BK338 := uD (KeepBut.blk hk (g' := gb338) (o := .cells #[.int .i64 t330, .int .i64 t331, .bool t332, .slice Ao65 t333.length co65] 29 (0, 0)) (by (with_reducible repeat first|apply uH|apply uJ|apply uG); refine uP (cs := #[.int .i64 t330, .int .i64 t331, .bool t332, .slice none 0 0]) ?_ 3 _ rfl; (with_reducible repeat first|apply uH|apply uJ|apply uG); refine uP (cs := #[.int .i64 t330, .int .i64 t331, .bool false, .slice none 0 0]) ?_ 2 _ rfl; (with_reducible repeat first|apply uH|apply uJ|apply uG); refine uP (cs := #[.int .i64 t330, .int .i64 0, .bool false, .slice none 0 0]) ?_ 1 _ rfl; (with_reducible repeat first|apply uH|apply uJ|apply uG); refine uP (cs := #[.int .i64 0, .int .i64 0, .bool false, .slice none 0 0]) ?_ 0 _ rfl; (with_reducible repeat first|apply uH|apply uJ|apply uG); exact BK338.out) NB338_0.out (by simp)); replace HK := uD (KeepBut.trans (ph HK) hk (.inl rfl)); replace HB := uD (hb); replace HI0 := uD (hi); (try clear hb); (try clear hb2); (try clear hk); (try clear hi); obtain ⟨hcz67_0, hcz67_1, hcz67_2, hcz67_3, hfz67_0, hfz67_1, hfz67_2, hfz67_3⟩ := cz4 BK338; have hnb68 := NB329_0.out; have hnc68 := NB0_329.out; obtain ⟨hcz69_0, hcz69_1, hcz69_2, hcz69_3, hfz69_0, hfz69_1, hfz69_2, hfz69_3⟩ := cz4 BK329))
     refine bodyPost_ret (results_cell_row rfl _ _ gb329 29 #[.int .i64 t330, .int .i64 t331, .bool t332, .slice Ao65 t333.length co65] (0, 0) _ rfl (by (with_reducible repeat first|apply uH|apply uJ|apply uG); refine uP (cs := #[.int .i64 t330, .int .i64 t331, .bool t332, .slice none 0 0]) ?_ 3 _ rfl; (with_reducible repeat first|apply uH|apply uJ|apply uG); refine uP (cs := #[.int .i64 t330, .int .i64 t331, .bool false, .slice none 0 0]) ?_ 2 _ rfl; (with_reducible repeat first|apply uH|apply uJ|apply uG); refine uP (cs := #[.int .i64 t330, .int .i64 0, .bool false, .slice none 0 0]) ?_ 1 _ rfl; (with_reducible repeat first|apply uH|apply uJ|apply uG); refine uP (cs := #[.int .i64 0, .int .i64 0, .bool false, .slice none 0 0]) ?_ 0 _ rfl; (with_reducible repeat first|apply uH|apply uJ|apply uG); exact BK329.out) Try.underlying29 rfl (by kernel_rfl)) rfl ?_
     exact ⟨_, by first | rfl | (simp [errW_none, errW_some] <;> rfl) | (simp [*, errW_none, errW_some] <;> rfl), by (with_reducible repeat (first | apply uU | apply uS | apply uT)); exact uX (uV (p := ⟨gb329, 3, none⟩) (uV (p := ⟨gb329, 2, none⟩) (uV (p := ⟨gb329, 1, none⟩) (uV (p := ⟨gb329, 0, none⟩) (uW HO335.out BK329.out (by decide)) (fun _ hk => hk.2) (.int .i64 t330)) (fun _ hk => hk.2) (.int .i64 t331)) (fun _ hk => hk.2) (.bool t332)) (fun _ hk => hk.2) (.slice Ao65 t333.length co65)) (fun _ hk => trivial), IsS85.p HI0, pB HB (IsS85.ge HI0.out), ph HK⟩
   ·rw [if_neg c38] at H
    have c38b0 : (t339 == 2) = false := beq_eq_false_iff_ne.mpr c38
    have c38b1 : (t339 != 2) = true := bne_iff_ne.mpr c38
    by_cases c70 : t339 = 3
    ·rw [if_pos c70] at H
     have c70b0 : (t339 == 3) = true := beq_iff_eq.mpr c70
     have c70b1 : (t339 != 3) = false := bne_eq_false_iff_eq.mpr c70
     clear c70
     by_cases c71 : (t333.length : Int) > 0
     ·rw [if_pos c71] at H
      have c71b0 : decide (0 < (t333.length : Int)) = true := decide_eq_true c71
      have c71b1 : decide (0 < t333.length) = true := decide_eq_true (by omega)
      clear c71
      obtain ⟨ji72, hji72⟩ : ∃ j_ : Int, (wrap64 ((t333.length : Int) - 1)) = j_ := ⟨_, rfl⟩
      replace H : (if 0 ≤ (ji72) then (if (ji72) < (t333.length : Int) then ((spec_l01PickInt.f s0_0 t340 t341 (([1, (-1), 9] : List Int))).bind fun bt360 => (some (t330, t331, t332, (t333.set ((ji72) : Int).toNat (⟨(rd_T53 t333 (ji72)).f0, wrap64 (((rd_T53 t333 (ji72)).f1) + bt360.1), (rd_T53 t333 (ji72)).f2⟩ : S53)), bt360.2.1, bt360.2.2))) else (none)) else (none)) = some (r1, r2, r3, r4, r5, r6) := by first | (rw [hji72] at H; exact H) | (simp only [hji72] at H ⊢; exact H)
      (try rw [hji72] at A2)
      (try rw [hji72] at A3)
      have hji72w : (IntKind.i64.wrap ((t333.length : Int) - 1)) = ji72 := (uZ _).trans hji72
      by_cases c73 : 0 ≤ (ji72)
      ·rw [if_pos c73] at H
       have c73b0 : decide (0 ≤ (ji72)) = true := decide_eq_true c73
       clear c73
       by_cases c74 : (ji72) < (t333.length : Int)
       ·rw [if_pos c74] at H
        have c74b0 : decide ((ji72) < (t333.length : Int)) = true := decide_eq_true c74
        clear c74
        obtain ⟨y357, hy357⟩ : ∃ y_ : List Int, y_ = (([1, (-1), 9] : List Int)) := ⟨_, rfl⟩
        replace H : ((spec_l01PickInt.f s0_0 t340 t341 y357).bind fun bt360 => (some (t330, t331, t332, (t333.set ((ji72) : Int).toNat (⟨(rd_T53 t333 (ji72)).f0, wrap64 (((rd_T53 t333 (ji72)).f1) + bt360.1), (rd_T53 t333 (ji72)).f2⟩ : S53)), bt360.2.1, bt360.2.2))) = some (r1, r2, r3, r4, r5, r6) := by first | (rw [hy357]; with_reducible exact H) | (have H2_ := (Option.bind_some _ _).symm.trans H; rw [hy357]; with_reducible exact H2_) | (have H2_ := (Option.bind_some _ _).symm.trans H; with_reducible exact H2_) | with_reducible exact H | (rw [hy357]; exact H) | exact H
        have Ny357 := uD hy357
        clear hy357
        replace H := Option.bind_eq_some_iff.mp H
        obtain ⟨⟨t360, t361, t362⟩, A750, H⟩ := H
        replace H : (some (t330, t331, t332, (t333.set ((ji72) : Int).toNat (⟨(rd_T53 t333 (ji72)).f0, wrap64 (((rd_T53 t333 (ji72)).f1) + t360), (rd_T53 t333 (ji72)).f2⟩ : S53)), t361, t362)) = some (r1, r2, r3, r4, r5, r6) := H
        have A75 := uD A750
        clear A750
        obtain ⟨y363, hy363⟩ : ∃ y_ : List (S53), y_ = (t333.set ((ji72) : Int).toNat (⟨(rd_T53 t333 (ji72)).f0, wrap64 (((rd_T53 t333 (ji72)).f1) + t360), (rd_T53 t333 (ji72)).f2⟩ : S53)) := ⟨_, rfl⟩
        replace H : (some (t330, t331, t332, y363, t361, t362)) = some (r1, r2, r3, r4, r5, r6) := by first | (rw [hy363]; with_reducible exact H) | (have H2_ := (Option.bind_some _ _).symm.trans H; rw [hy363]; with_reducible exact H2_) | (have H2_ := (Option.bind_some _ _).symm.trans H; with_reducible exact H2_) | with_reducible exact H | (rw [hy363]; exact H) | exact H
        have Ny363 := uD hy363
        clear hy363
        simp only [Option.some.injEq, Prod.mk.injEq] at H
        obtain ⟨rfl, rfl, rfl, rfl, rfl, rfl⟩ := H
        go_enter Try.func66, Try.ntmps66
        try go_wp2_with (first | ((with_reducible refine gate_dst (N := 2) rfl ?_); refine bx 2 #[.int .i64 0, .int .i64 0, .bool false, .slice none 0 0] 29 ?_; intro gb329 hg w77 hbox hb; replace HB := uD (uO (pB HB (IsS85.ge HI0.out)) hb); have BK329 := uD (hbox); have GW329 := uD ((by rw [hg]; exact (keep_size (w := w) (g := g) (row := none) (ph HK)) : w.heap.size ≤ gb329)); have GE329 := uD ((Nat.le_trans HW0.out (by rw [hg]; exact (keep_size (w := w) (g := g) (row := none) (ph HK)) : w.heap.size ≤ gb329) : w0.heap.size ≤ gb329)); replace HK := uD (KeepBut.trans (ph HK) (KeepBut.of_below hb g none) (.inl rfl)); have NB0_329 := uD ((by rw [hg]; exact Nat.ne_of_lt (IsS85.lt (show IsS85 w0 _ g s0_0 s0_1 s0_2 from IsS85.p HI0)) : g ≠ gb329)); have NB329_0 := uD ((by rw [hg]; exact Nat.ne_of_gt (IsS85.lt (show IsS85 w0 _ g s0_0 s0_1 s0_2 from IsS85.p HI0)) : gb329 ≠ g)); replace HI0 := uD (IsS85.below (IsS85.p HI0) hb); clear hb hbox hg) | ((with_reducible refine gate_callee (f := 74) rfl ?_); refine gl (some 7) Try.func74 #[.pointer (some ⟨g, 0, none⟩)] ?_; (with_reducible refine (spec_l02Belt.calls k g s0_0 s0_1 s0_2 t330 t331 t332 t333 t336 t337 w0 _ ?side1 ?side2 A2.out).mono ?_); (case side1 => exact IsS85.p HI0); (case side2 => exact pB HB (IsS85.ge HI0.out)); rintro e w78 ⟨v334, rfl, ho0, hi, hb, hk⟩; refine ⟨_, rfl, ?_⟩; replace BK329 := uD (KeepBut.blk hk (pk BK329) NB329_0.out (by simp)); have HO335 := uD (Kd.R_lower ho0 (keep_size (w := w) (g := g) (row := none) (ph HK))); replace HK := uD (KeepBut.trans (ph HK) hk (.inl rfl)); replace HB := uD (hb); replace HI0 := uD (hi); (try clear hb); (try clear hb2); (try clear hk); (try clear hi); (try clear ho0)) | ((with_reducible refine gate_dst (N := 3) rfl ?_); refine bx 3 #[.int .i64 0, .int .i64 0, .bool false, .slice none 0 0] 29 ?_; intro gb338 hg w79 hbox hb; replace HO335 := uD (Kd.R_below (pr HO335) hb); replace HB := uD (uO (pB HB (IsS85.ge HI0.out)) hb); have BK338 := uD (hbox); have GW338 := uD ((by rw [hg]; exact (keep_size (w := w) (g := g) (row := none) (ph HK)) : w.heap.size ≤ gb338)); have GE338 := uD ((Nat.le_trans HW0.out (by rw [hg]; exact (keep_size (w := w) (g := g) (row := none) (ph HK)) : w.heap.size ≤ gb338) : w0.heap.size ≤ gb338)); replace HK := uD (KeepBut.trans (ph HK) (KeepBut.of_below hb g none) (.inl rfl)); have NB329_338 := uD ((by rw [hg]; exact Nat.ne_of_lt (blk_lt (pk BK329)) : gb329 ≠ gb338)); have NB338_329 := uD ((by rw [hg]; exact Nat.ne_of_gt (blk_lt (pk BK329)) : gb338 ≠ gb329)); replace BK329 := uD (blk_below (pk BK329) hb); have NB0_338 := uD ((by rw [hg]; exact Nat.ne_of_lt (IsS85.lt (show IsS85 w0 _ g s0_0 t336 t337 from IsS85.p HI0)) : g ≠ gb338)); have NB338_0 := uD ((by rw [hg]; exact Nat.ne_of_gt (IsS85.lt (show IsS85 w0 _ g s0_0 t336 t337 from IsS85.p HI0)) : gb338 ≠ g)); replace HI0 := uD (IsS85.below (IsS85.p HI0) hb); clear hb hbox hg; have hnb80 := NB338_329.out; have hnc80 := NB329_338.out; have hnb81 := NB338_0.out; have hnc81 := NB0_338.out; obtain ⟨hcz82_0, hcz82_1, hcz82_2, hcz82_3, hfz82_0, hfz82_1, hfz82_2, hfz82_3⟩ := cz4 BK338; obtain ⟨Ao83, co83, eo83⟩ := Kd.R_slice HO335.out; subst eo83) | ((with_reducible refine gate_callee (f := 75) rfl ?_); refine gl (some 12) Try.func75 #[.pointer (some ⟨g, 0, none⟩), .int .i64 18] ?_; (with_reducible refine (spec_l01Below.calls g s0_0 t336 t337 18 t339 t340 t341 w0 _ ?side1 ?side2 A3.out).mono ?_); (case side1 => exact IsS85.p HI0); (case side2 => exact pB HB (IsS85.ge HI0.out)); rintro e w84 ⟨rfl, hi, hb, hk⟩; refine ⟨_, rfl, ?_⟩; replace BK329 := uD (KeepBut.blk hk (g' := gb329) (o := .cells #[.int .i64 0, .int .i64 0, .bool false, .slice none 0 0] 29 (0, 0)) (by exact ps BK329) NB329_0.out (by simp)); replace HO335 := uD (uX (Kd.R_keep (IsS85.apart (show IsS85 w0 _ g s0_0 t336 t337 from IsS85.p HI0) (by (with_reducible repeat (first | apply uU | apply uS | apply uT)); exact (uX (uV (p := ⟨gb338, 3, none⟩) (uV (p := ⟨gb338, 2, none⟩) (uV (p := ⟨gb338, 1, none⟩) (uV (p := ⟨gb338, 0, none⟩) (uW HO335.out BK338.out (by decide)) (fun _ hk => hk.2) (.int .i64 t330)) (fun _ hk => hk.2) (.int .i64 t331)) (fun _ hk => hk.2) (.bool t332)) (fun _ hk => hk.2) (.slice Ao83 t333.length co83)) (fun _ h_ => h_.1))) (by decide)) hk (fun _ h => h.2)) (fun _ h => h.1)); replace BK338 := uD (KeepBut.blk hk (g' := gb338) (o := .cells #[.int .i64 t330, .int .i64 t331, .bool t332, .slice Ao83 t333.length co83] 29 (0, 0)) (by (with_reducible repeat first|apply uH|apply uJ|apply uG); refine uP (cs := #[.int .i64 t330, .int .i64 t331, .bool t332, .slice none 0 0]) ?_ 3 _ rfl; (with_reducible repeat first|apply uH|apply uJ|apply uG); refine uP (cs := #[.int .i64 t330, .int .i64 t331, .bool false, .slice none 0 0]) ?_ 2 _ rfl; (with_reducible repeat first|apply uH|apply uJ|apply uG); refine uP (cs := #[.int .i64 t330, .int .i64 0, .bool false, .slice none 0 0]) ?_ 1 _ rfl; (with_reducible repeat first|apply uH|apply uJ|apply uG); refine uP (cs := #[.int .i64 0, .int .i64 0, .bool false, .slice none 0 0]) ?_ 0 _ rfl; (with_reducible repeat first|apply uH|apply uJ|apply uG); exact BK338.out) NB338_0.out (by simp)); replace HK := uD (KeepBut.trans (ph HK) hk (.inl rfl)); replace HB := uD (hb); replace HI0 := uD (hi); (try clear hb); (try clear hb2); (try clear hk); (try clear hi)))
        replace HO335 := uD (uT HO335.out)
        replace BK329 := uD (uJ BK329.out)
        replace BK338 := uD (uJ BK338.out)
        replace HI0 := uD (IsS85.drew HI0.out)
        replace HK := uD (keep_drew HK.out)
        replace HB := uD (uK HB.out)
        have p356 : 0 ≤ ((ji72) : Int) := of_decide_eq_true (by first | (with_reducible assumption) | assumption)
        have q356 : (ji72) < (t333.length : Int) := of_decide_eq_true (by first | (with_reducible assumption) | assumption)
        obtain ⟨ad356, e356, hx356_0, hx356_1, hx356_2⟩ := at_T53 (Kd.R_reads' HO335.out).2.2 (ji72) p356 q356
        cases e356
        replace p356 := eq_true p356
        replace q356 := eq_true q356
        refine start_ (n := 18) (S := fun w' => w'.cell? ⟨gb338, 0, none⟩ = some (.int .i64 t330) ∧ w'.cell? ⟨gb338, 1, none⟩ = some (.int .i64 t331) ∧ w'.cell? ⟨gb338, 2, none⟩ = some (.bool t332) ∧ w'.cell? ⟨gb338, 3, none⟩ = some (.slice (some ad356) t333.length co83) ∧ w'.cell? (ad356.add (((ji72)).toNat * 3)) = some (.int .i64 ((rd_T53 t333 (ji72)).f0)) ∧ w'.cell? ⟨(ad356.add (((ji72)).toNat * 3)).block, (ad356.add (((ji72)).toNat * 3)).off + 1, none⟩ = some (.int .i64 ((rd_T53 t333 (ji72)).f1)) ∧ w'.cell? ⟨(ad356.add (((ji72)).toNat * 3)).block, (ad356.add (((ji72)).toNat * 3)).off + 2, none⟩ = some (.int .i64 ((rd_T53 t333 (ji72)).f2))) (ds := [17]) #[F,F,F,F,F,F,F,F,F,F,F,F,F,F,F,F,F,F] (by kernel_rfl) rfl rfl ⟨(uF BK338.out 0).trans rfl, (uF BK338.out 1).trans rfl, (uF BK338.out 2).trans rfl, (uF BK338.out 3).trans rfl, hx356_0, hx356_1, hx356_2⟩ (fun hHeld => ?_); refine with_tabW spec_l02Any.tab13 spec_l02Any.bits13 (fun HT_ HW_ => ?_)
        generalize w84.drew = w85 at HO335 BK329 BK338 HI0 HK HB hx356_0 hx356_1 hx356_2 hHeld ⊢
        refine pu 0 (some 44) #[T,F,F,F,F,F,F,F,F,F,F,F,F,F,F,F,F,F] HT_ ?_
        refine pu 2 (some 46) #[T,F,T,F,F,F,F,F,F,F,F,F,F,F,F,F,F,F] HT_ ?_
        refine pu 3 (some 47) #[T,F,T,T,F,F,F,F,F,F,F,F,F,F,F,F,F,F] HT_ ?_
        refine pu 4 (some 48) #[T,F,T,T,T,F,F,F,F,F,F,F,F,F,F,F,F,F] HT_ ?_
        refine pu 6 (some 50) #[T,F,T,T,T,F,T,F,F,F,F,F,F,F,F,F,F,F] HT_ ?_
        refine pu 7 (some 51) #[T,F,T,T,T,F,T,T,F,F,F,F,F,F,F,F,F,F] HT_ ?_
        refine pu 11 (some 55) #[T,F,T,T,T,F,T,T,F,F,F,T,F,F,F,F,F,F] HT_ ?_
        refine tk 1 (some 45) #[T,T,T,T,T,F,T,T,F,F,F,T,F,F,F,F,F,F] HT_ HW_ hHeld ?_
        refine tk 5 (some 49) #[T,T,T,T,T,T,T,T,F,F,F,T,F,F,F,F,F,F] HT_ HW_ hHeld ?_
        refine pu 8 (some 52) #[T,T,T,T,T,T,T,T,T,F,F,T,F,F,F,F,F,F] HT_ ?_
        refine pu 9 (some 53) #[T,T,T,T,T,T,T,T,T,T,F,T,F,F,F,F,F,F] HT_ ?_
        refine tk 10 (some 54) #[T,T,T,T,T,T,T,T,T,T,T,T,F,F,F,F,F,F] HT_ HW_ hHeld ?_
        refine one_ (i := 12) (N := some 56) #[T,T,T,T,T,T,T,T,T,T,T,T,T,F,F,F,F,F] rfl rfl (one_of HT_.out (by kernel_rfl)) (by decide) (fun K hK => ?_)
        refine Kd.R_lit_step (Kd.int .i64) _ 3 ?hg (N := 56) ?hd (xs := ([1, (-1), 9] : List Int)) (inner := [.int .i64 1, .int .i64 (-1), .int .i64 9]) (ok := fun _ => True) (okp := fun _ => True) ?hr ?hp (fun _ hk => hk) trivial (Below.refl _ _) (Nat.le_refl _) (by simp) ?_; (case hd => rfl); (case hg => rfl); (case hr => first | (go_simp; done) | (go_simp; rfl)); (case hp => exact (Reps.one (show Kd.M (Kd.int .i64) _ _ _ 1 [.int .i64 1] from rfl) (Reps.one (show Kd.M (Kd.int .i64) _ _ _ (-1) [.int .i64 (-1)] from rfl) (Reps.one (show Kd.M (Kd.int .i64) _ _ _ 9 [.int .i64 9] from rfl) (Reps.none _ _)))))
        intro v358 w86 ho87 hb hg_ hnew_
        have HS4_ := (hb.cell (World.block_lt_of_cell? _ _ (hHeld.2.2.2.2.1))).trans (hHeld.2.2.2.2.1)
        have HS5_ := (hb.cell (World.block_lt_of_cell? _ _ (hHeld.2.2.2.2.2.1))).trans (hHeld.2.2.2.2.2.1)
        have HS6_ := (hb.cell (World.block_lt_of_cell? _ _ (hHeld.2.2.2.2.2.2))).trans (hHeld.2.2.2.2.2.2)
        clear hg_ hnew_
        (first | rw [← Ny357.out] at ho87 | (simp only [Int.reduceToNat] at ho87; rw [← Ny357.out] at ho87))
        replace HO335 := uD (Kd.R_below (pr HO335) hb)
        have HO359 := uD (Kd.R_lower ho87 (keep_size (w := w) (g := g) (row := none) (ph HK)))
        replace BK329 := uD (blk_below (pk BK329) hb)
        replace BK338 := uD (blk_below (pk BK338) hb)
        replace HK := uD (KeepBut.trans (ph HK) (KeepBut.of_below hb g none) (.inl rfl))
        replace HB := uD (uO (pB HB (IsS85.ge HI0.out)) hb)
        replace HI0 := uD (IsS85.below (IsS85.p HI0) hb)
        clear hb ho87
        obtain ⟨Ao88, co88, eo88⟩ := Kd.R_slice HO359.out
        (first | subst eo88 | (injection eo88 with f1_ f2_ f3_; have f4_ := f1_.symm; have f5_ := f3_.symm; clear f1_ f2_ f3_; subst f4_; subst f5_))
        refine hK.out _ _ ⟨(uF BK338.out 0).trans rfl, (uF BK338.out 1).trans rfl, (uF BK338.out 2).trans rfl, (uF BK338.out 3).trans rfl, HS4_, HS5_, HS6_⟩ (fun hHeld => ?_)
        clear hK K
        refine norm_ (a' := ?_) ?_ ?_
        rotate_left
        ·show uc _ (some 56) _ = _
         simp only [uc, uA, uB, uC, uZ, ua]
         rfl
        refine one_ (i := 13) (N := some 57) #[T,T,T,T,T,T,T,T,T,T,T,T,T,T,F,F,F,F] rfl rfl (one_of HT_.out (by kernel_rfl)) (by decide) (fun K hK => ?_)
        refine goes_ Try.func67 (by kernel_rfl) rfl #[.pointer (some ⟨g, 0, none⟩), .slice Ao88 y357.length co88] (by rfl) rfl rfl (by (try simp only [List.map_toArray, List.map_cons, List.map_nil]); first | done | rfl | (simp only [List.length_drop, List.length_take]; rfl)) ?_
        with_reducible refine (spec_l01PickInt.calls g s0_0 t340 t341 _ _ y357 t360 t361 t362 w0 _ ?side1 ?side2 ?side3 ?side4 ?side5 A75.out).mono ?_
        (case side1 => exact IsS85.p HI0)
        (case side2 => exact pB HB (IsS85.ge HI0.out))
        (case side3 => exact pc ((Kd.R_reads' HO359.out).2.2))
        (case side4 => exact (Kd.R_reads' HO359.out).2.1)
        (case side5 => exact far_slice (IsS85.own_ne HI0.out HO359.out (by decide)))
        rintro e w89 ⟨rfl, hi, hb, hk⟩
        have HS4_ := keep_cell hk (hHeld.2.2.2.2.1) (by first | (rw [add_block]; exact Kd.own_blk (IsS85.own_ne HI0.out HO335.out (by decide))) | (show (Addr.add _ _).block ≠ _; rw [add_block]; exact Kd.own_blk (IsS85.own_ne HI0.out HO335.out (by decide))) | exact Kd.own_blk (IsS85.own_ne HI0.out HO335.out (by decide)))
        have HS5_ := keep_cell hk (hHeld.2.2.2.2.2.1) (by first | (rw [add_block]; exact Kd.own_blk (IsS85.own_ne HI0.out HO335.out (by decide))) | (show (Addr.add _ _).block ≠ _; rw [add_block]; exact Kd.own_blk (IsS85.own_ne HI0.out HO335.out (by decide))) | exact Kd.own_blk (IsS85.own_ne HI0.out HO335.out (by decide)))
        have HS6_ := keep_cell hk (hHeld.2.2.2.2.2.2) (by first | (rw [add_block]; exact Kd.own_blk (IsS85.own_ne HI0.out HO335.out (by decide))) | (show (Addr.add _ _).block ≠ _; rw [add_block]; exact Kd.own_blk (IsS85.own_ne HI0.out HO335.out (by decide))) | exact Kd.own_blk (IsS85.own_ne HI0.out HO335.out (by decide)))
        refine ⟨_, rfl, ?_⟩
        replace BK329 := uD (KeepBut.blk hk (pk BK329) NB329_0.out (by simp))
        replace HO335 := uD (uX (Kd.R_keep (IsS85.apart (show IsS85 w0 _ g s0_0 t340 t341 from IsS85.p HI0) (pr HO335) (by decide)) hk (fun _ h => h.2)) (fun _ h => h.1))
        replace BK338 := uD (KeepBut.blk hk (pk BK338) NB338_0.out (by simp))
        replace HO359 := uD (uX (Kd.R_keep (IsS85.apart (show IsS85 w0 _ g s0_0 t340 t341 from IsS85.p HI0) (pr HO359) (by decide)) hk (fun _ h => h.2)) (fun _ h => h.1))
        replace HK := uD (KeepBut.trans (ph HK) hk (.inl rfl))
        replace HB := uD (hb)
        replace HI0 := uD (hi)
        (try clear hb)
        (try clear hb2)
        (try clear hk)
        (try clear hi)
        have p76 : 0 ≤ ((ji72) : Int) := of_decide_eq_true (by first | (with_reducible assumption) | assumption)
        have q76 : ((ji72) : Int) < ((t333.length : Int) : Int) := of_decide_eq_true (by first | (with_reducible assumption) | assumption)
        obtain ⟨go76, co76, eo76, gb76, gl76, cl76, HG76⟩ := Kd.R_form HO335.out (by omega)
        (first | cases eo76 | (injection eo76 with ea_ en_ ec_; (first | subst ea_ | (injection ea_ with ea_; subst ea_)); subst ec_; clear en_))
        have GB76 := uD gb76
        have GG76 := uD HG76
        clear gb76 gl76 HG76
        (first | simp only [add_plain] at hx356_0 | skip)
        (first | simp only [add_plain] at hx356_1 | skip)
        (first | simp only [add_plain] at hx356_2 | skip)
        obtain ⟨ce76, hcl76, hM76, hcc76, hfr76⟩ := Kd.R_elem HO335.out z53 ((ji72) : Int) p76 q76
        obtain rfl := k53_openM hM76
        have hx76_0 : World.cell? _ ⟨go76, ((ji72) : Int).toNat * 3, none⟩ = some (.int .i64 ((rd_T53 t333 (ji72)).f0)) := hcc76 0 _ rfl
        have hx76_1 : World.cell? _ ⟨go76, ((ji72) : Int).toNat * 3 + 1, none⟩ = some (.int .i64 ((rd_T53 t333 (ji72)).f1)) := hcc76 1 _ rfl
        have hx76_2 : World.cell? _ ⟨go76, ((ji72) : Int).toNat * 3 + 2, none⟩ = some (.int .i64 ((rd_T53 t333 (ji72)).f2)) := hcc76 2 _ rfl
        have hf76_0 : World.frozen? _ ⟨go76, ((ji72) : Int).toNat * 3, none⟩ = false := hfr76 0
        have hf76_1 : World.frozen? _ ⟨go76, ((ji72) : Int).toNat * 3 + 1, none⟩ = false := hfr76 1
        have hf76_2 : World.frozen? _ ⟨go76, ((ji72) : Int).toNat * 3 + 2, none⟩ = false := hfr76 2
        clear hcl76 hcc76 hfr76 hM76
        replace p76 := eq_true p76
        replace q76 := eq_true q76
        have HN0_go76 := uD (show g ≠ go76 from by have h_ := IsS85.own_ne HI0.out HO335.out (by decide); intro e_; exact h_ (by rw [e_]; rfl))
        obtain ⟨ce90, hcl90, hM90, hcc90, hfr90⟩ := Kd.R_elem HO335.out z53 ((ji72) : Int) (of_decide_eq_true (by first | (with_reducible assumption) | assumption)) (by have h_ : ((ji72) : Int) < ((t333.length : Int) : Int) := of_decide_eq_true (by first | (with_reducible assumption) | assumption); first | exact h_ | (have e_ := (Kd.R_reads' HO335.out).1; omega) | simpa using h_)
        obtain rfl := k53_openM hM90
        have HP90 := (Kd.R_seg HO335.out ((ji72) : Int) (of_decide_eq_true (by first | (with_reducible assumption) | assumption)) (by have h_ : ((ji72) : Int) < ((t333.length : Int) : Int) := of_decide_eq_true (by first | (with_reducible assumption) | assumption); first | exact h_ | (have e_ := (Kd.R_reads' HO335.out).1; omega) | simpa using h_) (seg := [.int .i64 (wrap64 (((rd_T53 t333 (ji72)).f1) + t360))]) (j := 1) hcl90 hcc90 (show 2 ≤ 3 from by decide) (x' := (⟨(rd_T53 t333 (ji72)).f0, wrap64 (((rd_T53 t333 (ji72)).f1) + t360), (rd_T53 t333 (ji72)).f2⟩ : S53)) (k53_mkM _ _ _ (⟨(rd_T53 t333 (ji72)).f0, wrap64 (((rd_T53 t333 (ji72)).f1) + t360), (rd_T53 t333 (ji72)).f2⟩ : S53) ) (fun _ hk => hk)).1
        rw [← Ny363.out] at HP90
        have HQ90 := uD HP90
        clear hcl90 hcc90 hfr90 hM90 HP90
        refine hK.out _ _ ⟨(uF BK338.out 0).trans rfl, (uF BK338.out 1).trans rfl, (uF BK338.out 2).trans rfl, (uF BK338.out 3).trans rfl, HS4_, HS5_, HS6_⟩ (fun hHeld => ?_)
        clear hK K
        refine norm_ (a' := ?_) ?_ ?_
        rotate_left
        ·show uc _ (some 57) _ = _
         simp only [uc, uA, uB, uC, uZ, ua]
         rfl
        refine pu 14 (some 58) #[T,T,T,T,T,T,T,T,T,T,T,T,T,T,T,F,F,F] HT_ ?_
        refine pu 15 (some 59) #[T,T,T,T,T,T,T,T,T,T,T,T,T,T,T,T,F,F] HT_ ?_
        refine pu 16 (some 60) #[T,T,T,T,T,T,T,T,T,T,T,T,T,T,T,T,T,F] HT_ ?_
        refine last_ (i := 17) (N := none) #[T,T,T,T,T,T,T,T,T,T,T,T,T,T,T,T,T,T] rfl rfl (one_of HT_.out (by kernel_rfl)) (by decide) (fun K hK => ?_)
        refine skip_ (w1 := ?_) (by rfl) rfl ?_ ?_
        rotate_left
        ·go_simp
         rfl
        refine hK.out _ _ ?_
        clear hK K
        refine done_ (done_of HT_.out (by kernel_rfl)) ?_
        have n0_ : Aside0 (Kd.R k53 53 (w89.setCell ⟨go76, ((ji72) : Int).toNat * 3 + 1, none⟩ (.int .i64 (wrap64 (((rd_T53 t333 (ji72)).f1) + t360)))) w.heap.size (fun _ => True) (.slice (some ⟨go76, 0, none⟩) t333.length co83) y363) := ⟨by (with_reducible repeat (first | apply uU | apply uS | apply uT)); exact HQ90.out⟩
        have n1_ : Aside0 (Kd.R (Kd.int .i64) 3 (w89.setCell ⟨go76, ((ji72) : Int).toNat * 3 + 1, none⟩ (.int .i64 (wrap64 (((rd_T53 t333 (ji72)).f1) + t360)))) w.heap.size (fun _ => True) (.slice Ao88 y357.length co88) y357) := ⟨by (with_reducible repeat (first | apply uU | apply uS | apply uT)); exact uX (uV (p := ⟨go76, ((ji72) : Int).toNat * 3 + 1, none⟩) (uW HO359.out GG76.out (by decide)) (fun _ hk => hk.2) (.int .i64 (wrap64 (((rd_T53 t333 (ji72)).f1) + t360)))) (fun _ hk => trivial)⟩
        have n2_ : Aside0 ((w89.setCell ⟨go76, ((ji72) : Int).toNat * 3 + 1, none⟩ (.int .i64 (wrap64 (((rd_T53 t333 (ji72)).f1) + t360)))).heap[gb329]? = some (.cells #[.int .i64 0, .int .i64 0, .bool false, .slice none 0 0] 29 (0, 0))) := ⟨by (with_reducible repeat first|apply uH|apply uJ|apply uG); refine uQ ?_ (by have h_ := Kd.R_ne HO335.out BK329.out (by decide); intro e_; exact h_ (by rw [e_]; rfl)) _; (with_reducible repeat first|apply uH|apply uJ|apply uG); exact BK329.out⟩
        have n3_ : Aside0 ((w89.setCell ⟨go76, ((ji72) : Int).toNat * 3 + 1, none⟩ (.int .i64 (wrap64 (((rd_T53 t333 (ji72)).f1) + t360)))).heap[gb338]? = some (.cells #[.int .i64 t330, .int .i64 t331, .bool t332, .slice (some ⟨go76, 0, none⟩) t333.length co83] 29 (0, 0))) := ⟨by (with_reducible repeat first|apply uH|apply uJ|apply uG); refine uQ ?_ (by have h_ := Kd.R_ne HO335.out BK338.out (by decide); intro e_; exact h_ (by rw [e_]; rfl)) _; (with_reducible repeat first|apply uH|apply uJ|apply uG); exact BK338.out⟩
        have n4_ : Aside0 (IsS85 w0 (w89.setCell ⟨go76, ((ji72) : Int).toNat * 3 + 1, none⟩ (.int .i64 (wrap64 (((rd_T53 t333 (ji72)).f1) + t360)))) g s0_0 t361 t362) := ⟨IsS85.p HI0⟩
        have n5_ : Aside0 (KeepBut w (w89.setCell ⟨go76, ((ji72) : Int).toNat * 3 + 1, none⟩ (.int .i64 (wrap64 (((rd_T53 t333 (ji72)).f1) + t360)))) g none) := ⟨ph HK⟩
        have n6_ : Aside0 (Below w0.heap.size w0 (w89.setCell ⟨go76, ((ji72) : Int).toNat * 3 + 1, none⟩ (.int .i64 (wrap64 (((rd_T53 t333 (ji72)).f1) + t360))))) := ⟨by repeat (first | (with_reducible first | exact HB.out | apply uL | apply uE | apply uK | refine uM ?_ (Nat.le_trans HL.out GB76.out) | refine uM ?_ (IsS85.ge HI0.out) | refine uM ?_ GE329.out | refine uM ?_ GE338.out) | exact HB.out)⟩
        (try clear HO335)
        (try clear HO359)
        (try clear BK329)
        (try clear BK338)
        (try clear HI0)
        (try clear HK)
        (try clear HB)
        generalize (w89.setCell ⟨go76, ((ji72) : Int).toNat * 3 + 1, none⟩ (.int .i64 (wrap64 (((rd_T53 t333 (ji72)).f1) + t360)))) = w91 at n0_ n1_ n2_ n3_ n4_ n5_ n6_ ⊢
        have HO335 := n0_
        have HO359 := n1_
        have BK329 := n2_
        have BK338 := n3_
        have HI0 := n4_
        have HK := n5_
        have HB := n6_
        clear n0_ n1_ n2_ n3_ n4_ n5_ n6_
        obtain ⟨hcz92_0, hcz92_1, hcz92_2, hcz92_3, hfz92_0, hfz92_1, hfz92_2, hfz92_3⟩ := cz4 BK338
        have hnb93 := NB329_0.out
        have hnc93 := NB0_329.out
        obtain ⟨hcz94_0, hcz94_1, hcz94_2, hcz94_3, hfz94_0, hfz94_1, hfz94_2, hfz94_3⟩ := cz4 BK329
        try go_wp2
        refine bodyPost_ret (results_cell_row rfl _ _ gb329 29 #[.int .i64 t330, .int .i64 t331, .bool t332, .slice (some ⟨go76, 0, none⟩) t333.length co83] (0, 0) _ rfl (by (with_reducible repeat first|apply uH|apply uJ|apply uG); refine uP (cs := #[.int .i64 t330, .int .i64 t331, .bool t332, .slice none 0 0]) ?_ 3 _ rfl; (with_reducible repeat first|apply uH|apply uJ|apply uG); refine uP (cs := #[.int .i64 t330, .int .i64 t331, .bool false, .slice none 0 0]) ?_ 2 _ rfl; (with_reducible repeat first|apply uH|apply uJ|apply uG); refine uP (cs := #[.int .i64 t330, .int .i64 0, .bool false, .slice none 0 0]) ?_ 1 _ rfl; (with_reducible repeat first|apply uH|apply uJ|apply uG); refine uP (cs := #[.int .i64 0, .int .i64 0, .bool false, .slice none 0 0]) ?_ 0 _ rfl; (with_reducible repeat first|apply uH|apply uJ|apply uG); exact BK329.out) Try.underlying29 rfl (by kernel_rfl)) rfl ?_
        exact ⟨_, by first | rfl | (simp [errW_none, errW_some] <;> rfl) | (simp only [← hji72]; first | rfl | (simp [errW_none, errW_some] <;> rfl)) | (simp [*, errW_none, errW_some] <;> rfl), by (with_reducible repeat (first | apply uU | apply uS | apply uT)); exact uX (uV (p := ⟨gb329, 3, none⟩) (uV (p := ⟨gb329, 2, none⟩) (uV (p := ⟨gb329, 1, none⟩) (uV (p := ⟨gb329, 0, none⟩) (uW HO335.out BK329.out (by decide)) (fun _ hk => hk.2) (.int .i64 t330)) (fun _ hk => hk.2) (.int .i64 t331)) (fun _ hk => hk.2) (.bool t332)) (fun _ hk => hk.2) (.slice (some ⟨go76, 0, none⟩) t333.length co83)) (fun _ hk => trivial), IsS85.p HI0, pB HB (IsS85.ge HI0.out), ph HK⟩
       ·rw [if_neg c74] at H
        exact absurd H (by simp)
      ·rw [if_neg c73] at H
       exact absurd H (by simp)
     ·rw [if_neg c71] at H
      have c71b0 : decide (0 < (t333.length : Int)) = false := decide_eq_false c71
      have c71b1 : decide (0 < t333.length) = false := decide_eq_false (by omega)
      clear c71
      simp only [Option.some.injEq, Prod.mk.injEq] at H
      obtain ⟨rfl, rfl, rfl, rfl, rfl, rfl⟩ := H
      go_enter Try.func66, Try.ntmps66
      go_wp2_with (first | ((with_reducible refine gate_dst (N := 2) rfl ?_); refine bx 2 #[.int .i64 0, .int .i64 0, .bool false, .slice none 0 0] 29 ?_; intro gb329 hg w95 hbox hb; replace HB := uD (uO (pB HB (IsS85.ge HI0.out)) hb); have BK329 := uD (hbox); have GW329 := uD ((by rw [hg]; exact (keep_size (w := w) (g := g) (row := none) (ph HK)) : w.heap.size ≤ gb329)); have GE329 := uD ((Nat.le_trans HW0.out (by rw [hg]; exact (keep_size (w := w) (g := g) (row := none) (ph HK)) : w.heap.size ≤ gb329) : w0.heap.size ≤ gb329)); replace HK := uD (KeepBut.trans (ph HK) (KeepBut.of_below hb g none) (.inl rfl)); have NB0_329 := uD ((by rw [hg]; exact Nat.ne_of_lt (IsS85.lt (show IsS85 w0 _ g s0_0 s0_1 s0_2 from IsS85.p HI0)) : g ≠ gb329)); have NB329_0 := uD ((by rw [hg]; exact Nat.ne_of_gt (IsS85.lt (show IsS85 w0 _ g s0_0 s0_1 s0_2 from IsS85.p HI0)) : gb329 ≠ g)); replace HI0 := uD (IsS85.below (IsS85.p HI0) hb); clear hb hbox hg) | ((with_reducible refine gate_callee (f := 74) rfl ?_); refine gl (some 7) Try.func74 #[.pointer (some ⟨g, 0, none⟩)] ?_; (with_reducible refine (spec_l02Belt.calls k g s0_0 s0_1 s0_2 t330 t331 t332 t333 t336 t337 w0 _ ?side1 ?side2 A2.out).mono ?_); (case side1 => exact IsS85.p HI0); (case side2 => exact pB HB (IsS85.ge HI0.out)); rintro e w96 ⟨v334, rfl, ho0, hi, hb, hk⟩; refine ⟨_, rfl, ?_⟩; replace BK329 := uD (KeepBut.blk hk (pk BK329) NB329_0.out (by simp)); have HO335 := uD (Kd.R_lower ho0 (keep_size (w := w) (g := g) (row := none) (ph HK))); replace HK := uD (KeepBut.trans (ph HK) hk (.inl rfl)); replace HB := uD (hb); replace HI0 := uD (hi); (try clear hb); (try clear hb2); (try clear hk); (try clear hi); (try clear ho0)) | ((with_reducible refine gate_dst (N := 3) rfl ?_); refine bx 3 #[.int .i64 0, .int .i64 0, .bool false, .slice none 0 0] 29 ?_; intro gb338 hg w97 hbox hb; replace HO335 := uD (Kd.R_below (pr HO335) hb); replace HB := uD (uO (pB HB (IsS85.ge HI0.out)) hb); have BK338 := uD (hbox); have GW338 := uD ((by rw [hg]; exact (keep_size (w := w) (g := g) (row := none) (ph HK)) : w.heap.size ≤ gb338)); have GE338 := uD ((Nat.le_trans HW0.out (by rw [hg]; exact (keep_size (w := w) (g := g) (row := none) (ph HK)) : w.heap.size ≤ gb338) : w0.heap.size ≤ gb338)); replace HK := uD (KeepBut.trans (ph HK) (KeepBut.of_below hb g none) (.inl rfl)); have NB329_338 := uD ((by rw [hg]; exact Nat.ne_of_lt (blk_lt (pk BK329)) : gb329 ≠ gb338)); have NB338_329 := uD ((by rw [hg]; exact Nat.ne_of_gt (blk_lt (pk BK329)) : gb338 ≠ gb329)); replace BK329 := uD (blk_below (pk BK329) hb); have NB0_338 := uD ((by rw [hg]; exact Nat.ne_of_lt (IsS85.lt (show IsS85 w0 _ g s0_0 t336 t337 from IsS85.p HI0)) : g ≠ gb338)); have NB338_0 := uD ((by rw [hg]; exact Nat.ne_of_gt (IsS85.lt (show IsS85 w0 _ g s0_0 t336 t337 from IsS85.p HI0)) : gb338 ≠ g)); replace HI0 := uD (IsS85.below (IsS85.p HI0) hb); clear hb hbox hg; have hnb98 := NB338_329.out; have hnc98 := NB329_338.out; have hnb99 := NB338_0.out; have hnc99 := NB0_338.out; obtain ⟨hcz100_0, hcz100_1, hcz100_2, hcz100_3, hfz100_0, hfz100_1, hfz100_2, hfz100_3⟩ := cz4 BK338; obtain ⟨Ao101, co101, eo101⟩ := Kd.R_slice HO335.out; subst eo101) | ((with_reducible refine gate_callee (f := 75) rfl ?_); refine gl (some 12) Try.func75 #[.pointer (some ⟨g, 0, none⟩), .int .i64 18] ?_; (with_reducible refine (spec_l01Below.calls g s0_0 t336 t337 18 t339 t340 t341 w0 _ ?side1 ?side2 A3.out).mono ?_); (case side1 => exact IsS85.p HI0); (case side2 => exact pB HB (IsS85.ge HI0.out)); rintro e w102 ⟨rfl, hi, hb, hk⟩; refine ⟨_, rfl, ?_⟩; replace BK329 := uD (KeepBut.blk hk (g' := gb329) (o := .cells #[.int .i64 0, .int .i64 0, .bool false, .slice none 0 0] 29 (0, 0)) (by exact ps BK329) NB329_0.out (by simp)); replace HO335 := uD (uX (Kd.R_keep (IsS85.apart (show IsS85 w0 _ g s0_0 t336 t337 from IsS85.p HI0) (by (with_reducible repeat (first | apply uU | apply uS | apply uT)); exact (uX (uV (p := ⟨gb338, 3, none⟩) (uV (p := ⟨gb338, 2, none⟩) (uV (p := ⟨gb338, 1, none⟩) (uV (p := ⟨gb338, 0, none⟩) (uW HO335.out BK338.out (by decide)) (fun _ hk => hk.2) (.int .i64 t330)) (fun _ hk => hk.2) (.int .i64 t331)) (fun _ hk => hk.2) (.bool t332)) (fun _ hk => hk.2) (.slice Ao101 t333.length co101)) (fun _ h_ => h_.1))) (by decide)) hk (fun _ h => h.2)) (fun _ h => h.1)); replace BK338 := uD (KeepBut.blk hk (g' := gb338) (o := .cells #[.int .i64 t330, .int .i64 t331, .bool t332, .slice Ao101 t333.length co101] 29 (0, 0)) (by (with_reducible repeat first|apply uH|apply uJ|apply uG); refine uP (cs := #[.int .i64 t330, .int .i64 t331, .bool t332, .slice none 0 0]) ?_ 3 _ rfl; (with_reducible repeat first|apply uH|apply uJ|apply uG); refine uP (cs := #[.int .i64 t330, .int .i64 t331, .bool false, .slice none 0 0]) ?_ 2 _ rfl; (with_reducible repeat first|apply uH|apply uJ|apply uG); refine uP (cs := #[.int .i64 t330, .int .i64 0, .bool false, .slice none 0 0]) ?_ 1 _ rfl; (with_reducible repeat first|apply uH|apply uJ|apply uG); refine uP (cs := #[.int .i64 0, .int .i64 0, .bool false, .slice none 0 0]) ?_ 0 _ rfl; (with_reducible repeat first|apply uH|apply uJ|apply uG); exact BK338.out) NB338_0.out (by simp)); replace HK := uD (KeepBut.trans (ph HK) hk (.inl rfl)); replace HB := uD (hb); replace HI0 := uD (hi); (try clear hb); (try clear hb2); (try clear hk); (try clear hi); obtain ⟨hcz103_0, hcz103_1, hcz103_2, hcz103_3, hfz103_0, hfz103_1, hfz103_2, hfz103_3⟩ := cz4 BK338; have hnb104 := NB329_0.out; have hnc104 := NB0_329.out; obtain ⟨hcz105_0, hcz105_1, hcz105_2, hcz105_3, hfz105_0, hfz105_1, hfz105_2, hfz105_3⟩ := cz4 BK329))
      refine bodyPost_ret (results_cell_row rfl _ _ gb329 29 #[.int .i64 t330, .int .i64 t331, .bool t332, .slice Ao101 t333.length co101] (0, 0) _ rfl (by (with_reducible repeat first|apply uH|apply uJ|apply uG); refine uP (cs := #[.int .i64 t330, .int .i64 t331, .bool t332, .slice none 0 0]) ?_ 3 _ rfl; (with_reducible repeat first|apply uH|apply uJ|apply uG); refine uP (cs := #[.int .i64 t330, .int .i64 t331, .bool false, .slice none 0 0]) ?_ 2 _ rfl; (with_reducible repeat first|apply uH|apply uJ|apply uG); refine uP (cs := #[.int .i64 t330, .int .i64 0, .bool false, .slice none 0 0]) ?_ 1 _ rfl; (with_reducible repeat first|apply uH|apply uJ|apply uG); refine uP (cs := #[.int .i64 0, .int .i64 0, .bool false, .slice none 0 0]) ?_ 0 _ rfl; (with_reducible repeat first|apply uH|apply uJ|apply uG); exact BK329.out) Try.underlying29 rfl (by kernel_rfl)) rfl ?_
      exact ⟨_, by first | rfl | (simp [errW_none, errW_some] <;> rfl) | (simp [*, errW_none, errW_some] <;> rfl), by (with_reducible repeat (first | apply uU | apply uS | apply uT)); exact uX (uV (p := ⟨gb329, 3, none⟩) (uV (p := ⟨gb329, 2, none⟩) (uV (p := ⟨gb329, 1, none⟩) (uV (p := ⟨gb329, 0, none⟩) (uW HO335.out BK329.out (by decide)) (fun _ hk => hk.2) (.int .i64 t330)) (fun _ hk => hk.2) (.int .i64 t331)) (fun _ hk => hk.2) (.bool t332)) (fun _ hk => hk.2) (.slice Ao101 t333.length co101)) (fun _ hk => trivial), IsS85.p HI0, pB HB (IsS85.ge HI0.out), ph HK⟩
    ·rw [if_neg c70] at H
     have c70b0 : (t339 == 3) = false := beq_eq_false_iff_ne.mpr c70
     have c70b1 : (t339 != 3) = true := bne_iff_ne.mpr c70
     by_cases c106 : t339 = 4
     ·rw [if_pos c106] at H
      have c106b0 : (t339 == 4) = true := beq_iff_eq.mpr c106
      have c106b1 : (t339 != 4) = false := bne_eq_false_iff_eq.mpr c106
      clear c106
      by_cases c107 : (t333.length : Int) > 0
      ·rw [if_pos c107] at H
       have c107b0 : decide (0 < (t333.length : Int)) = true := decide_eq_true c107
       have c107b1 : decide (0 < t333.length) = true := decide_eq_true (by omega)
       clear c107
       obtain ⟨y364, hy364⟩ : ∃ y_ : List Int, y_ = (([0, 61, 60, (-1)] : List Int)) := ⟨_, rfl⟩
       replace H : ((spec_l01PickInt.f s0_0 t340 t341 y364).bind fun bt367 => (if 0 < (t333.length : Int) then (some (t330, t331, t332, (t333.set (0 : Int).toNat (⟨(rd_T53 t333 0).f0, (rd_T53 t333 0).f1, bt367.1⟩ : S53)), bt367.2.1, bt367.2.2)) else (none))) = some (r1, r2, r3, r4, r5, r6) := by first | (rw [hy364]; with_reducible exact H) | (have H2_ := (Option.bind_some _ _).symm.trans H; rw [hy364]; with_reducible exact H2_) | (have H2_ := (Option.bind_some _ _).symm.trans H; with_reducible exact H2_) | with_reducible exact H | (rw [hy364]; exact H) | exact H
       have Ny364 := uD hy364
       clear hy364
       replace H := Option.bind_eq_some_iff.mp H
       obtain ⟨⟨t367, t368, t369⟩, A1080, H⟩ := H
       replace H : (if 0 < (t333.length : Int) then (some (t330, t331, t332, (t333.set (0 : Int).toNat (⟨(rd_T53 t333 0).f0, (rd_T53 t333 0).f1, t367⟩ : S53)), t368, t369)) else (none)) = some (r1, r2, r3, r4, r5, r6) := H
       have A108 := uD A1080
       clear A1080
       by_cases c109 : 0 < (t333.length : Int)
       ·rw [if_pos c109] at H
        have c109b0 : decide (0 < (t333.length : Int)) = true := decide_eq_true c109
        have c109b1 : decide (0 < t333.length) = true := decide_eq_true (by omega)
        clear c109
        (try simp [c109b0] at c107b0)
        obtain ⟨y370, hy370⟩ : ∃ y_ : List (S53), y_ = (t333.set (0 : Int).toNat (⟨(rd_T53 t333 0).f0, (rd_T53 t333 0).f1, t367⟩ : S53)) := ⟨_, rfl⟩
        replace H : (some (t330, t331, t332, y370, t368, t369)) = some (r1, r2, r3, r4, r5, r6) := by first | (rw [hy370]; with_reducible exact H) | (have H2_ := (Option.bind_some _ _).symm.trans H; rw [hy370]; with_reducible exact H2_) | (have H2_ := (Option.bind_some _ _).symm.trans H; with_reducible exact H2_) | with_reducible exact H | (rw [hy370]; exact H) | exact H
        have Ny370 := uD hy370
        clear hy370
        simp only [Option.some.injEq, Prod.mk.injEq] at H
        obtain ⟨rfl, rfl, rfl, rfl, rfl, rfl⟩ := H
        go_enter Try.func66, Try.ntmps66
        try go_wp2_with (first | ((with_reducible refine gate_dst (N := 2) rfl ?_); refine bx 2 #[.int .i64 0, .int .i64 0, .bool false, .slice none 0 0] 29 ?_; intro gb329 hg w111 hbox hb; replace HB := uD (uO (pB HB (IsS85.ge HI0.out)) hb); have BK329 := uD (hbox); have GW329 := uD ((by rw [hg]; exact (keep_size (w := w) (g := g) (row := none) (ph HK)) : w.heap.size ≤ gb329)); have GE329 := uD ((Nat.le_trans HW0.out (by rw [hg]; exact (keep_size (w := w) (g := g) (row := none) (ph HK)) : w.heap.size ≤ gb329) : w0.heap.size ≤ gb329)); replace HK := uD (KeepBut.trans (ph HK) (KeepBut.of_below hb g none) (.inl rfl)); have NB0_329 := uD ((by rw [hg]; exact Nat.ne_of_lt (IsS85.lt (show IsS85 w0 _ g s0_0 s0_1 s0_2 from IsS85.p HI0)) : g ≠ gb329)); have NB329_0 := uD ((by rw [hg]; exact Nat.ne_of_gt (IsS85.lt (show IsS85 w0 _ g s0_0 s0_1 s0_2 from IsS85.p HI0)) : gb329 ≠ g)); replace HI0 := uD (IsS85.below (IsS85.p HI0) hb); clear hb hbox hg) | ((with_reducible refine gate_callee (f := 74) rfl ?_); refine gl (some 7) Try.func74 #[.pointer (some ⟨g, 0, none⟩)] ?_; (with_reducible refine (spec_l02Belt.calls k g s0_0 s0_1 s0_2 t330 t331 t332 t333 t336 t337 w0 _ ?side1 ?side2 A2.out).mono ?_); (case side1 => exact IsS85.p HI0); (case side2 => exact pB HB (IsS85.ge HI0.out)); rintro e w112 ⟨v334, rfl, ho0, hi, hb, hk⟩; refine ⟨_, rfl, ?_⟩; replace BK329 := uD (KeepBut.blk hk (pk BK329) NB329_0.out (by simp)); have HO335 := uD (Kd.R_lower ho0 (keep_size (w := w) (g := g) (row := none) (ph HK))); replace HK := uD (KeepBut.trans (ph HK) hk (.inl rfl)); replace HB := uD (hb); replace HI0 := uD (hi); (try clear hb); (try clear hb2); (try clear hk); (try clear hi); (try clear ho0)) | ((with_reducible refine gate_dst (N := 3) rfl ?_); refine bx 3 #[.int .i64 0, .int .i64 0, .bool false, .slice none 0 0] 29 ?_; intro gb338 hg w113 hbox hb; replace HO335 := uD (Kd.R_below (pr HO335) hb); replace HB := uD (uO (pB HB (IsS85.ge HI0.out)) hb); have BK338 := uD (hbox); have GW338 := uD ((by rw [hg]; exact (keep_size (w := w) (g := g) (row := none) (ph HK)) : w.heap.size ≤ gb338)); have GE338 := uD ((Nat.le_trans HW0.out (by rw [hg]; exact (keep_size (w := w) (g := g) (row := none) (ph HK)) : w.heap.size ≤ gb338) : w0.heap.size ≤ gb338)); replace HK := uD (KeepBut.trans (ph HK) (KeepBut.of_below hb g none) (.inl rfl)); have NB329_338 := uD ((by rw [hg]; exact Nat.ne_of_lt (blk_lt (pk BK329)) : gb329 ≠ gb338)); have NB338_329 := uD ((by rw [hg]; exact Nat.ne_of_gt (blk_lt (pk BK329)) : gb338 ≠ gb329)); replace BK329 := uD (blk_below (pk BK329) hb); have NB0_338 := uD ((by rw [hg]; exact Nat.ne_of_lt (IsS85.lt (show IsS85 w0 _ g s0_0 t336 t337 from IsS85.p HI0)) : g ≠ gb338)); have NB338_0 := uD ((by rw [hg]; exact Nat.ne_of_gt (IsS85.lt (show IsS85 w0 _ g s0_0 t336 t337 from IsS85.p HI0)) : gb338 ≠ g)); replace HI0 := uD (IsS85.below (IsS85.p HI0) hb); clear hb hbox hg; have hnb114 := NB338_329.out; have hnc114 := NB329_338.out; have hnb115 := NB338_0.out; have hnc115 := NB0_338.out; obtain ⟨hcz116_0, hcz116_1, hcz116_2, hcz116_3, hfz116_0, hfz116_1, hfz116_2, hfz116_3⟩ := cz4 BK338; obtain ⟨Ao117, co117, eo117⟩ := Kd.R_slice HO335.out; subst eo117) | ((with_reducible refine gate_callee (f := 75) rfl ?_); refine gl (some 12) Try.func75 #[.pointer (some ⟨g, 0, none⟩), .int .i64 18] ?_; (with_reducible refine (spec_l01Below.calls g s0_0 t336 t337 18 t339 t340 t341 w0 _ ?side1 ?side2 A3.out).mono ?_); (case side1 => exact IsS85.p HI0); (case side2 => exact pB HB (IsS85.ge HI0.out)); rintro e w118 ⟨rfl, hi, hb, hk⟩; refine ⟨_, rfl, ?_⟩; replace BK329 := uD (KeepBut.blk hk (g' := gb329) (o := .cells #[.int .i64 0, .int .i64 0, .bool false, .slice none 0 0] 29 (0, 0)) (by exact ps BK329) NB329_0.out (by simp)); replace HO335 := uD (uX (Kd.R_keep (IsS85.apart (show IsS85 w0 _ g s0_0 t336 t337 from IsS85.p HI0) (by (with_reducible repeat (first | apply uU | apply uS | apply uT)); exact (uX (uV (p := ⟨gb338, 3, none⟩) (uV (p := ⟨gb338, 2, none⟩) (uV (p := ⟨gb338, 1, none⟩) (uV (p := ⟨gb338, 0, none⟩) (uW HO335.out BK338.out (by decide)) (fun _ hk => hk.2) (.int .i64 t330)) (fun _ hk => hk.2) (.int .i64 t331)) (fun _ hk => hk.2) (.bool t332)) (fun _ hk => hk.2) (.slice Ao117 t333.length co117)) (fun _ h_ => h_.1))) (by decide)) hk (fun _ h => h.2)) (fun _ h => h.1)); replace BK338 := uD (KeepBut.blk hk (g' := gb338) (o := .cells #[.int .i64 t330, .int .i64 t331, .bool t332, .slice Ao117 t333.length co117] 29 (0, 0)) (by (with_reducible repeat first|apply uH|apply uJ|apply uG); refine uP (cs := #[.int .i64 t330, .int .i64 t331, .bool t332, .slice none 0 0]) ?_ 3 _ rfl; (with_reducible repeat first|apply uH|apply uJ|apply uG); refine uP (cs := #[.int .i64 t330, .int .i64 t331, .bool false, .slice none 0 0]) ?_ 2 _ rfl; (with_reducible repeat first|apply uH|apply uJ|apply uG); refine uP (cs := #[.int .i64 t330, .int .i64 0, .bool false, .slice none 0 0]) ?_ 1 _ rfl; (with_reducible repeat first|apply uH|apply uJ|apply uG); refine uP (cs := #[.int .i64 0, .int .i64 0, .bool false, .slice none 0 0]) ?_ 0 _ rfl; (with_reducible repeat first|apply uH|apply uJ|apply uG); exact BK338.out) NB338_0.out (by simp)); replace HK := uD (KeepBut.trans (ph HK) hk (.inl rfl)); replace HB := uD (hb); replace HI0 := uD (hi); (try clear hb); (try clear hb2); (try clear hk); (try clear hi)))
        replace HO335 := uD (uT HO335.out)
        replace BK329 := uD (uJ BK329.out)
        replace BK338 := uD (uJ BK338.out)
        replace HI0 := uD (IsS85.drew HI0.out)
        replace HK := uD (keep_drew HK.out)
        replace HB := uD (uK HB.out)
        refine start_ (n := 8) (S := fun w' => w'.cell? ⟨gb338, 0, none⟩ = some (.int .i64 t330) ∧ w'.cell? ⟨gb338, 1, none⟩ = some (.int .i64 t331) ∧ w'.cell? ⟨gb338, 2, none⟩ = some (.bool t332) ∧ w'.cell? ⟨gb338, 3, none⟩ = some (.slice Ao117 t333.length co117)) (ds := [7]) #[F,F,F,F,F,F,F,F] (by kernel_rfl) rfl rfl ⟨(uF BK338.out 0).trans rfl, (uF BK338.out 1).trans rfl, (uF BK338.out 2).trans rfl, (uF BK338.out 3).trans rfl⟩ (fun hHeld => ?_); refine with_tabW spec_l02Any.tab16 spec_l02Any.bits16 (fun HT_ HW_ => ?_)
        generalize w118.drew = w119 at HO335 BK329 BK338 HI0 HK HB hHeld ⊢
        refine pu 0 (some 65) #[T,F,F,F,F,F,F,F] HT_ ?_
        refine pu 2 (some 67) #[T,F,T,F,F,F,F,F] HT_ ?_
        refine tk 1 (some 66) #[T,T,T,F,F,F,F,F] HT_ HW_ hHeld ?_
        refine one_ (i := 3) (N := some 68) #[T,T,T,T,F,F,F,F] rfl rfl (one_of HT_.out (by kernel_rfl)) (by decide) (fun K hK => ?_)
        refine Kd.R_lit_step (Kd.int .i64) _ 3 ?hg (N := 68) ?hd (xs := ([0, 61, 60, (-1)] : List Int)) (inner := [.int .i64 0, .int .i64 61, .int .i64 60, .int .i64 (-1)]) (ok := fun _ => True) (okp := fun _ => True) ?hr ?hp (fun _ hk => hk) trivial (Below.refl _ _) (Nat.le_refl _) (by simp) ?_; (case hd => rfl); (case hg => rfl); (case hr => first | (go_simp; done) | (go_simp; rfl)); (case hp => exact (Reps.one (show Kd.M (Kd.int .i64) _ _ _ 0 [.int .i64 0] from rfl) (Reps.one (show Kd.M (Kd.int .i64) _ _ _ 61 [.int .i64 61] from rfl) (Reps.one (show Kd.M (Kd.int .i64) _ _ _ 60 [.int .i64 60] from rfl) (Reps.one (show Kd.M (Kd.int .i64) _ _ _ (-1) [.int .i64 (-1)] from rfl) (Reps.none _ _))))))
        intro v365 w120 ho121 hb hg_ hnew_
        clear hg_ hnew_
        (first | rw [← Ny364.out] at ho121 | (simp only [Int.reduceToNat] at ho121; rw [← Ny364.out] at ho121))
        replace HO335 := uD (Kd.R_below (pr HO335) hb)
        have HO366 := uD (Kd.R_lower ho121 (keep_size (w := w) (g := g) (row := none) (ph HK)))
        replace BK329 := uD (blk_below (pk BK329) hb)
        replace BK338 := uD (blk_below (pk BK338) hb)
        replace HK := uD (KeepBut.trans (ph HK) (KeepBut.of_below hb g none) (.inl rfl))
        replace HB := uD (uO (pB HB (IsS85.ge HI0.out)) hb)
        replace HI0 := uD (IsS85.below (IsS85.p HI0) hb)
        clear hb ho121
        obtain ⟨Ao122, co122, eo122⟩ := Kd.R_slice HO366.out
        (first | subst eo122 | (injection eo122 with f1_ f2_ f3_; have f4_ := f1_.symm; have f5_ := f3_.symm; clear f1_ f2_ f3_; subst f4_; subst f5_))
        refine hK.out _ _ ⟨(uF BK338.out 0).trans rfl, (uF BK338.out 1).trans rfl, (uF BK338.out 2).trans rfl, (uF BK338.out 3).trans rfl⟩ (fun hHeld => ?_)
        clear hK K
        refine norm_ (a' := ?_) ?_ ?_
        rotate_left
        ·show uc _ (some 68) _ = _
         simp only [uc, uA, uB, uC, uZ, ua]
         rfl
        refine one_ (i := 4) (N := some 69) #[T,T,T,T,T,F,F,F] rfl rfl (one_of HT_.out (by kernel_rfl)) (by decide) (fun K hK => ?_)
        refine goes_ Try.func67 (by kernel_rfl) rfl #[.pointer (some ⟨g, 0, none⟩), .slice Ao122 y364.length co122] (by rfl) rfl rfl (by (try simp only [List.map_toArray, List.map_cons, List.map_nil]); first | done | rfl | (simp only [List.length_drop, List.length_take]; rfl)) ?_
        with_reducible refine (spec_l01PickInt.calls g s0_0 t340 t341 _ _ y364 t367 t368 t369 w0 _ ?side1 ?side2 ?side3 ?side4 ?side5 A108.out).mono ?_
        (case side1 => exact IsS85.p HI0)
        (case side2 => exact pB HB (IsS85.ge HI0.out))
        (case side3 => exact pc ((Kd.R_reads' HO366.out).2.2))
        (case side4 => exact (Kd.R_reads' HO366.out).2.1)
        (case side5 => exact far_slice (IsS85.own_ne HI0.out HO366.out (by decide)))
        rintro e w123 ⟨rfl, hi, hb, hk⟩
        refine ⟨_, rfl, ?_⟩
        replace BK329 := uD (KeepBut.blk hk (pk BK329) NB329_0.out (by simp))
        replace HO335 := uD (uX (Kd.R_keep (IsS85.apart (show IsS85 w0 _ g s0_0 t340 t341 from IsS85.p HI0) (pr HO335) (by decide)) hk (fun _ h => h.2)) (fun _ h => h.1))
        replace BK338 := uD (KeepBut.blk hk (pk BK338) NB338_0.out (by simp))
        replace HO366 := uD (uX (Kd.R_keep (IsS85.apart (show IsS85 w0 _ g s0_0 t340 t341 from IsS85.p HI0) (pr HO366) (by decide)) hk (fun _ h => h.2)) (fun _ h => h.1))
        replace HK := uD (KeepBut.trans (ph HK) hk (.inl rfl))
        replace HB := uD (hb)
        replace HI0 := uD (hi)
        (try clear hb)
        (try clear hb2)
        (try clear hk)
        (try clear hi)
        have p110 : 0 ≤ (0 : Int) := (by omega)
        have q110 : (0 : Int) < ((t333.length : Int) : Int) := of_decide_eq_true (by first | (with_reducible assumption) | assumption)
        have qi110 : (0 < t333.length) = True := eq_true (by omega)
        obtain ⟨go110, co110, eo110, gb110, gl110, cl110, HG110⟩ := Kd.R_form HO335.out (by omega)
        (first | cases eo110 | (injection eo110 with ea_ en_ ec_; (first | subst ea_ | (injection ea_ with ea_; subst ea_)); subst ec_; clear en_))
        have GB110 := uD gb110
        have GG110 := uD HG110
        clear gb110 gl110 HG110
        obtain ⟨ce110, hcl110, hM110, hcc110, hfr110⟩ := Kd.R_elem HO335.out z53 (0 : Int) p110 q110
        obtain rfl := k53_openM hM110
        have hx110_0 : World.cell? _ ⟨go110, (0 : Int).toNat * 3, none⟩ = some (.int .i64 ((rd_T53 t333 0).f0)) := hcc110 0 _ rfl
        have hx110_1 : World.cell? _ ⟨go110, (0 : Int).toNat * 3 + 1, none⟩ = some (.int .i64 ((rd_T53 t333 0).f1)) := hcc110 1 _ rfl
        have hx110_2 : World.cell? _ ⟨go110, (0 : Int).toNat * 3 + 2, none⟩ = some (.int .i64 ((rd_T53 t333 0).f2)) := hcc110 2 _ rfl
        have hf110_0 : World.frozen? _ ⟨go110, (0 : Int).toNat * 3, none⟩ = false := hfr110 0
        have hf110_1 : World.frozen? _ ⟨go110, (0 : Int).toNat * 3 + 1, none⟩ = false := hfr110 1
        have hf110_2 : World.frozen? _ ⟨go110, (0 : Int).toNat * 3 + 2, none⟩ = false := hfr110 2
        clear hcl110 hcc110 hfr110 hM110
        (try rw [show ((0 : Int)).toNat = 0 from rfl] at hx110_0)
        (try simp only [Nat.reduceMul, Nat.zero_mul, Nat.zero_add, Nat.reduceAdd] at hx110_0)
        (try rw [show ((0 : Int)).toNat = 0 from rfl] at hf110_0)
        (try simp only [Nat.reduceMul, Nat.zero_mul, Nat.zero_add, Nat.reduceAdd] at hf110_0)
        (try rw [show ((0 : Int)).toNat = 0 from rfl] at hx110_1)
        (try simp only [Nat.reduceMul, Nat.zero_mul, Nat.zero_add, Nat.reduceAdd] at hx110_1)
        (try rw [show ((0 : Int)).toNat = 0 from rfl] at hf110_1)
        (try simp only [Nat.reduceMul, Nat.zero_mul, Nat.zero_add, Nat.reduceAdd] at hf110_1)
        (try rw [show ((0 : Int)).toNat = 0 from rfl] at hx110_2)
        (try simp only [Nat.reduceMul, Nat.zero_mul, Nat.zero_add, Nat.reduceAdd] at hx110_2)
        (try rw [show ((0 : Int)).toNat = 0 from rfl] at hf110_2)
        (try simp only [Nat.reduceMul, Nat.zero_mul, Nat.zero_add, Nat.reduceAdd] at hf110_2)
        replace p110 := eq_true p110
        replace q110 := eq_true q110
        have HN0_go110 := uD (show g ≠ go110 from by have h_ := IsS85.own_ne HI0.out HO335.out (by decide); intro e_; exact h_ (by rw [e_]; rfl))
        obtain ⟨ce124, hcl124, hM124, hcc124, hfr124⟩ := Kd.R_elem HO335.out z53 (0 : Int) (by omega) (by have h_ : (0 : Int) < ((t333.length : Int) : Int) := of_decide_eq_true (by first | (with_reducible assumption) | assumption); first | exact h_ | (have e_ := (Kd.R_reads' HO335.out).1; omega) | simpa using h_)
        obtain rfl := k53_openM hM124
        have HP124 := (Kd.R_seg HO335.out (0 : Int) (by omega) (by have h_ : (0 : Int) < ((t333.length : Int) : Int) := of_decide_eq_true (by first | (with_reducible assumption) | assumption); first | exact h_ | (have e_ := (Kd.R_reads' HO335.out).1; omega) | simpa using h_) (seg := [.int .i64 t367]) (j := 2) hcl124 hcc124 (show 3 ≤ 3 from by decide) (x' := (⟨(rd_T53 t333 0).f0, (rd_T53 t333 0).f1, t367⟩ : S53)) (k53_mkM _ _ _ (⟨(rd_T53 t333 0).f0, (rd_T53 t333 0).f1, t367⟩ : S53) ) (fun _ hk => hk)).1
        rw [← Ny370.out] at HP124
        have HQ124 := uD HP124
        clear hcl124 hcc124 hfr124 hM124 HP124
        refine hK.out _ _ ⟨(uF BK338.out 0).trans rfl, (uF BK338.out 1).trans rfl, (uF BK338.out 2).trans rfl, (uF BK338.out 3).trans rfl⟩ (fun hHeld => ?_)
        clear hK K
        refine norm_ (a' := ?_) ?_ ?_
        rotate_left
        ·show uc _ (some 69) _ = _
         simp only [uc, uA, uB, uC, uZ, ua]
         rfl
        refine pu 5 (some 70) #[T,T,T,T,T,T,F,F] HT_ ?_
        refine pu 6 (some 71) #[T,T,T,T,T,T,T,F] HT_ ?_
        refine last_ (i := 7) (N := none) #[T,T,T,T,T,T,T,T] rfl rfl (one_of HT_.out (by kernel_rfl)) (by decide) (fun K hK => ?_)
        refine skip_ (w1 := ?_) (by rfl) rfl ?_ ?_
        rotate_left
        ·go_simp
         rfl
        refine hK.out _ _ ?_
        clear hK K
        refine done_ (done_of HT_.out (by kernel_rfl)) ?_
        have n0_ : Aside0 (Kd.R k53 53 (w123.setCell ⟨go110, 2, none⟩ (.int .i64 t367)) w.heap.size (fun _ => True) (.slice (some ⟨go110, 0, none⟩) t333.length co117) y370) := ⟨by (with_reducible repeat (first | apply uU | apply uS | apply uT)); exact HQ124.out⟩
        have n1_ : Aside0 (Kd.R (Kd.int .i64) 3 (w123.setCell ⟨go110, 2, none⟩ (.int .i64 t367)) w.heap.size (fun _ => True) (.slice Ao122 y364.length co122) y364) := ⟨by (with_reducible repeat (first | apply uU | apply uS | apply uT)); exact uX (uV (p := ⟨go110, 2, none⟩) (uW HO366.out GG110.out (by decide)) (fun _ hk => hk.2) (.int .i64 t367)) (fun _ hk => trivial)⟩
        have n2_ : Aside0 ((w123.setCell ⟨go110, 2, none⟩ (.int .i64 t367)).heap[gb329]? = some (.cells #[.int .i64 0, .int .i64 0, .bool false, .slice none 0 0] 29 (0, 0))) := ⟨by (with_reducible repeat first|apply uH|apply uJ|apply uG); refine uQ ?_ (by have h_ := Kd.R_ne HO335.out BK329.out (by decide); intro e_; exact h_ (by rw [e_]; rfl)) _; (with_reducible repeat first|apply uH|apply uJ|apply uG); exact BK329.out⟩
        have n3_ : Aside0 ((w123.setCell ⟨go110, 2, none⟩ (.int .i64 t367)).heap[gb338]? = some (.cells #[.int .i64 t330, .int .i64 t331, .bool t332, .slice (some ⟨go110, 0, none⟩) t333.length co117] 29 (0, 0))) := ⟨by (with_reducible repeat first|apply uH|apply uJ|apply uG); refine uQ ?_ (by have h_ := Kd.R_ne HO335.out BK338.out (by decide); intro e_; exact h_ (by rw [e_]; rfl)) _; (with_reducible repeat first|apply uH|apply uJ|apply uG); exact BK338.out⟩
        have n4_ : Aside0 (IsS85 w0 (w123.setCell ⟨go110, 2, none⟩ (.int .i64 t367)) g s0_0 t368 t369) := ⟨IsS85.p HI0⟩
        have n5_ : Aside0 (KeepBut w (w123.setCell ⟨go110, 2, none⟩ (.int .i64 t367)) g none) := ⟨ph HK⟩
        have n6_ : Aside0 (Below w0.heap.size w0 (w123.setCell ⟨go110, 2, none⟩ (.int .i64 t367))) := ⟨by repeat (first | (with_reducible first | exact HB.out | apply uL | apply uE | apply uK | refine uM ?_ (Nat.le_trans HL.out GB110.out) | refine uM ?_ (IsS85.ge HI0.out) | refine uM ?_ GE329.out | refine uM ?_ GE338.out) | exact HB.out)⟩
        (try clear HO335)
        (try clear HO366)
        (try clear BK329)
        (try clear BK338)
        (try clear HI0)
        (try clear HK)
        (try clear HB)
        generalize (w123.setCell ⟨go110, 2, none⟩ (.int .i64 t367)) = w125 at n0_ n1_ n2_ n3_ n4_ n5_ n6_ ⊢
        have HO335 := n0_
        have HO366 := n1_
        have BK329 := n2_
        have BK338 := n3_
        have HI0 := n4_
        have HK := n5_
        have HB := n6_
        clear n0_ n1_ n2_ n3_ n4_ n5_ n6_
        obtain ⟨hcz126_0, hcz126_1, hcz126_2, hcz126_3, hfz126_0, hfz126_1, hfz126_2, hfz126_3⟩ := cz4 BK338
        have hnb127 := NB329_0.out
        have hnc127 := NB0_329.out
        obtain ⟨hcz128_0, hcz128_1, hcz128_2, hcz128_3, hfz128_0, hfz128_1, hfz128_2, hfz128_3⟩ := cz4 BK329
        try go_wp2
        refine bodyPost_ret (results_cell_row rfl _ _ gb329 29 #[.int .i64 t330, .int .i64 t331, .bool t332, .slice (some ⟨go110, 0, none⟩) t333.length co117] (0, 0) _ rfl (by (with_reducible repeat first|apply uH|apply uJ|apply uG); refine uP (cs := #[.int .i64 t330, .int .i64 t331, .bool t332, .slice none 0 0]) ?_ 3 _ rfl; (with_reducible repeat first|apply uH|apply uJ|apply uG); refine uP (cs := #[.int .i64 t330, .int .i64 t331, .bool false, .slice none 0 0]) ?_ 2 _ rfl; (with_reducible repeat first|apply uH|apply uJ|apply uG); refine uP (cs := #[.int .i64 t330, .int .i64 0, .bool false, .slice none 0 0]) ?_ 1 _ rfl; (with_reducible repeat first|apply uH|apply uJ|apply uG); refine uP (cs := #[.int .i64 0, .int .i64 0, .bool false, .slice none 0 0]) ?_ 0 _ rfl; (with_reducible repeat first|apply uH|apply uJ|apply uG); exact BK329.out) Try.underlying29 rfl (by kernel_rfl)) rfl ?_
        exact ⟨_, by first | rfl | (simp [errW_none, errW_some] <;> rfl) | (simp [*, errW_none, errW_some] <;> rfl), by (with_reducible repeat (first | apply uU | apply uS | apply uT)); exact uX (uV (p := ⟨gb329, 3, none⟩) (uV (p := ⟨gb329, 2, none⟩) (uV (p := ⟨gb329, 1, none⟩) (uV (p := ⟨gb329, 0, none⟩) (uW HO335.out BK329.out (by decide)) (fun _ hk => hk.2) (.int .i64 t330)) (fun _ hk => hk.2) (.int .i64 t331)) (fun _ hk => hk.2) (.bool t332)) (fun _ hk => hk.2) (.slice (some ⟨go110, 0, none⟩) t333.length co117)) (fun _ hk => trivial), IsS85.p HI0, pB HB (IsS85.ge HI0.out), ph HK⟩
       ·rw [if_neg c109] at H
        exact absurd H (by simp)
      ·rw [if_neg c107] at H
       have c107b0 : decide (0 < (t333.length : Int)) = false := decide_eq_false c107
       have c107b1 : decide (0 < t333.length) = false := decide_eq_false (by omega)
       clear c107
       simp only [Option.some.injEq, Prod.mk.injEq] at H
       obtain ⟨rfl, rfl, rfl, rfl, rfl, rfl⟩ := H
       go_enter Try.func66, Try.ntmps66
       go_wp2_with (first | ((with_reducible refine gate_dst (N := 2) rfl ?_); refine bx 2 #[.int .i64 0, .int .i64 0, .bool false, .slice none 0 0] 29 ?_; intro gb329 hg w129 hbox hb; replace HB := uD (uO (pB HB (IsS85.ge HI0.out)) hb); have BK329 := uD (hbox); have GW329 := uD ((by rw [hg]; exact (keep_size (w := w) (g := g) (row := none) (ph HK)) : w.heap.size ≤ gb329)); have GE329 := uD ((Nat.le_trans HW0.out (by rw [hg]; exact (keep_size (w := w) (g := g) (row := none) (ph HK)) : w.heap.size ≤ gb329) : w0.heap.size ≤ gb329)); replace HK := uD (KeepBut.trans (ph HK) (KeepBut.of_below hb g none) (.inl rfl)); have NB0_329 := uD ((by rw [hg]; exact Nat.ne_of_lt (IsS85.lt (show IsS85 w0 _ g s0_0 s0_1 s0_2 from IsS85.p HI0)) : g ≠ gb329)); have NB329_0 := uD ((by rw [hg]; exact Nat.ne_of_gt (IsS85.lt (show IsS85 w0 _ g s0_0 s0_1 s0_2 from IsS85.p HI0)) : gb329 ≠ g)); replace HI0 := uD (IsS85.below (IsS85.p HI0) hb); clear hb hbox hg) | ((with_reducible refine gate_callee (f := 74) rfl ?_); refine gl (some 7) Try.func74 #[.pointer (some ⟨g, 0, none⟩)] ?_; (with_reducible refine (spec_l02Belt.calls k g s0_0 s0_1 s0_2 t330 t331 t332 t333 t336 t337 w0 _ ?side1 ?side2 A2.out).mono ?_); (case side1 => exact IsS85.p HI0); (case side2 => exact pB HB (IsS85.ge HI0.out)); rintro e w130 ⟨v334, rfl, ho0, hi, hb, hk⟩; refine ⟨_, rfl, ?_⟩; replace BK329 := uD (KeepBut.blk hk (pk BK329) NB329_0.out (by simp)); have HO335 := uD (Kd.R_lower ho0 (keep_size (w := w) (g := g) (row := none) (ph HK))); replace HK := uD (KeepBut.trans (ph HK) hk (.inl rfl)); replace HB := uD (hb); replace HI0 := uD (hi); (try clear hb); (try clear hb2); (try clear hk); (try clear hi); (try clear ho0)) | ((with_reducible refine gate_dst (N := 3) rfl ?_); refine bx 3 #[.int .i64 0, .int .i64 0, .bool false, .slice none 0 0] 29 ?_; intro gb338 hg w131 hbox hb; replace HO335 := uD (Kd.R_below (pr HO335) hb); replace HB := uD (uO (pB HB (IsS85.ge HI0.out)) hb); have BK338 := uD (hbox); have GW338 := uD ((by rw [hg]; exact (keep_size (w := w) (g := g) (row := none) (ph HK)) : w.heap.size ≤ gb338)); have GE338 := uD ((Nat.le_trans HW0.out (by rw [hg]; exact (keep_size (w := w) (g := g) (row := none) (ph HK)) : w.heap.size ≤ gb338) : w0.heap.size ≤ gb338)); replace HK := uD (KeepBut.trans (ph HK) (KeepBut.of_below hb g none) (.inl rfl)); have NB329_338 := uD ((by rw [hg]; exact Nat.ne_of_lt (blk_lt (pk BK329)) : gb329 ≠ gb338)); have NB338_329 := uD ((by rw [hg]; exact Nat.ne_of_gt (blk_lt (pk BK329)) : gb338 ≠ gb329)); replace BK329 := uD (blk_below (pk BK329) hb); have NB0_338 := uD ((by rw [hg]; exact Nat.ne_of_lt (IsS85.lt (show IsS85 w0 _ g s0_0 t336 t337 from IsS85.p HI0)) : g ≠ gb338)); have NB338_0 := uD ((by rw [hg]; exact Nat.ne_of_gt (IsS85.lt (show IsS85 w0 _ g s0_0 t336 t337 from IsS85.p HI0)) : gb338 ≠ g)); replace HI0 := uD (IsS85.below (IsS85.p HI0) hb); clear hb hbox hg; have hnb132 := NB338_329.out; have hnc132 := NB329_338.out; have hnb133 := NB338_0.out; have hnc133 := NB0_338.out; obtain ⟨hcz134_0, hcz134_1, hcz134_2, hcz134_3, hfz134_0, hfz134_1, hfz134_2, hfz134_3⟩ := cz4 BK338; obtain ⟨Ao135, co135, eo135⟩ := Kd.R_slice HO335.out; subst eo135) | ((with_reducible refine gate_callee (f := 75) rfl ?_); refine gl (some 12) Try.func75 #[.pointer (some ⟨g, 0, none⟩), .int .i64 18] ?_; (with_reducible refine (spec_l01Below.calls g s0_0 t336 t337 18 t339 t340 t341 w0 _ ?side1 ?side2 A3.out).mono ?_); (case side1 => exact IsS85.p HI0); (case side2 => exact pB HB (IsS85.ge HI0.out)); rintro e w136 ⟨rfl, hi, hb, hk⟩; refine ⟨_, rfl, ?_⟩; replace BK329 := uD (KeepBut.blk hk (g' := gb329) (o := .cells #[.int .i64 0, .int .i64 0, .bool false, .slice none 0 0] 29 (0, 0)) (by exact ps BK329) NB329_0.out (by simp)); replace HO335 := uD (uX (Kd.R_keep (IsS85.apart (show IsS85 w0 _ g s0_0 t336 t337 from IsS85.p HI0) (by (with_reducible repeat (first | apply uU | apply uS | apply uT)); exact (uX (uV (p := ⟨gb338, 3, none⟩) (uV (p := ⟨gb338, 2, none⟩) (uV (p := ⟨gb338, 1, none⟩) (uV (p := ⟨gb338, 0, none⟩) (uW HO335.out BK338.out (by decide)) (fun _ hk => hk.2) (.int .i64 t330)) (fun _ hk => hk.2) (.int .i64 t331)) (fun _ hk => hk.2) (.bool t332)) (fun _ hk => hk.2) (.slice Ao135 t333.length co135)) (fun _ h_ => h_.1))) (by decide)) hk (fun _ h => h.2)) (fun _ h => h.1)); replace BK338 := uD (KeepBut.blk hk (g' := gb338) (o := .cells #[.int .i64 t330, .int .i64 t331, .bool t332, .slice Ao135 t333.length co135] 29 (0, 0)) (by (with_reducible repeat first|apply uH|apply uJ|apply uG); refine uP (cs := #[.int .i64 t330, .int .i64 t331, .bool t332, .slice none 0 0]) ?_ 3 _ rfl; (with_reducible repeat first|apply uH|apply uJ|apply uG); refine uP (cs := #[.int .i64 t330, .int .i64 t331, .bool false, .slice none 0 0]) ?_ 2 _ rfl; (with_reducible repeat first|apply uH|apply uJ|apply uG); refine uP (cs := #[.int .i64 t330, .int .i64 0, .bool false, .slice none 0 0]) ?_ 1 _ rfl; (with_reducible repeat first|apply uH|apply uJ|apply uG); refine uP (cs := #[.int .i64 0, .int .i64 0, .bool false, .slice none 0 0]) ?_ 0 _ rfl; (with_reducible repeat first|apply uH|apply uJ|apply uG); exact BK338.out) NB338_0.out (by simp)); replace HK := uD (KeepBut.trans (ph HK) hk (.inl rfl)); replace HB := uD (hb); replace HI0 := uD (hi); (try clear hb); (try clear hb2); (try clear hk); (try clear hi); obtain ⟨hcz137_0, hcz137_1, hcz137_2, hcz137_3, hfz137_0, hfz137_1, hfz137_2, hfz137_3⟩ := cz4 BK338; have hnb138 := NB329_0.out; have hnc138 := NB0_329.out; obtain ⟨hcz139_0, hcz139_1, hcz139_2, hcz139_3, hfz139_0, hfz139_1, hfz139_2, hfz139_3⟩ := cz4 BK329))
       refine bodyPost_ret (results_cell_row rfl _ _ gb329 29 #[.int .i64 t330, .int .i64 t331, .bool t332, .slice Ao135 t333.length co135] (0, 0) _ rfl (by (with_reducible repeat first|apply uH|apply uJ|apply uG); refine uP (cs := #[.int .i64 t330, .int .i64 t331, .bool t332, .slice none 0 0]) ?_ 3 _ rfl; (with_reducible repeat first|apply uH|apply uJ|apply uG); refine uP (cs := #[.int .i64 t330, .int .i64 t331, .bool false, .slice none 0 0]) ?_ 2 _ rfl; (with_reducible repeat first|apply uH|apply uJ|apply uG); refine uP (cs := #[.int .i64 t330, .int .i64 0, .bool false, .slice none 0 0]) ?_ 1 _ rfl; (with_reducible repeat first|apply uH|apply uJ|apply uG); refine uP (cs := #[.int .i64 0, .int .i64 0, .bool false, .slice none 0 0]) ?_ 0 _ rfl; (with_reducible repeat first|apply uH|apply uJ|apply uG); exact BK329.out) Try.underlying29 rfl (by kernel_rfl)) rfl ?_
       exact ⟨_, by first | rfl | (simp [errW_none, errW_some] <;> rfl) | (simp [*, errW_none, errW_some] <;> rfl), by (with_reducible repeat (first | apply uU | apply uS | apply uT)); exact uX (uV (p := ⟨gb329, 3, none⟩) (uV (p := ⟨gb329, 2, none⟩) (uV (p := ⟨gb329, 1, none⟩) (uV (p := ⟨gb329, 0, none⟩) (uW HO335.out BK329.out (by decide)) (fun _ hk => hk.2) (.int .i64 t330)) (fun _ hk => hk.2) (.int .i64 t331)) (fun _ hk => hk.2) (.bool t332)) (fun _ hk => hk.2) (.slice Ao135 t333.length co135)) (fun _ hk => trivial), IsS85.p HI0, pB HB (IsS85.ge HI0.out), ph HK⟩
     ·rw [if_neg c106] at H
      have c106b0 : (t339 == 4) = false := beq_eq_false_iff_ne.mpr c106
      have c106b1 : (t339 != 4) = true := bne_iff_ne.mpr c106
      by_cases c140 : t339 = 5
      ·rw [if_pos c140] at H
       have c140b0 : (t339 == 5) = true := beq_iff_eq.mpr c140
       have c140b1 : (t339 != 5) = false := bne_eq_false_iff_eq.mpr c140
       clear c140
       have H' := uD H
       clear H
       go_enter Try.func66, Try.ntmps66
       go_wp2_with (first | ((with_reducible refine gate_dst (N := 2) rfl ?_); refine bx 2 #[.int .i64 0, .int .i64 0, .bool false, .slice none 0 0] 29 ?_; intro gb329 hg w141 hbox hb; replace HB := uD (uO (pB HB (IsS85.ge HI0.out)) hb); have BK329 := uD (hbox); have GW329 := uD ((by rw [hg]; exact (keep_size (w := w) (g := g) (row := none) (ph HK)) : w.heap.size ≤ gb329)); have GE329 := uD ((Nat.le_trans HW0.out (by rw [hg]; exact (keep_size (w := w) (g := g) (row := none) (ph HK)) : w.heap.size ≤ gb329) : w0.heap.size ≤ gb329)); replace HK := uD (KeepBut.trans (ph HK) (KeepBut.of_below hb g none) (.inl rfl)); have NB0_329 := uD ((by rw [hg]; exact Nat.ne_of_lt (IsS85.lt (show IsS85 w0 _ g s0_0 s0_1 s0_2 from IsS85.p HI0)) : g ≠ gb329)); have NB329_0 := uD ((by rw [hg]; exact Nat.ne_of_gt (IsS85.lt (show IsS85 w0 _ g s0_0 s0_1 s0_2 from IsS85.p HI0)) : gb329 ≠ g)); replace HI0 := uD (IsS85.below (IsS85.p HI0) hb); clear hb hbox hg) | ((with_reducible refine gate_callee (f := 74) rfl ?_); refine gl (some 7) Try.func74 #[.pointer (some ⟨g, 0, none⟩)] ?_; (with_reducible refine (spec_l02Belt.calls k g s0_0 s0_1 s0_2 t330 t331 t332 t333 t336 t337 w0 _ ?side1 ?side2 A2.out).mono ?_); (case side1 => exact IsS85.p HI0); (case side2 => exact pB HB (IsS85.ge HI0.out)); rintro e w142 ⟨v334, rfl, ho0, hi, hb, hk⟩; refine ⟨_, rfl, ?_⟩; replace BK329 := uD (KeepBut.blk hk (pk BK329) NB329_0.out (by simp)); have HO335 := uD (Kd.R_lower ho0 (keep_size (w := w) (g := g) (row := none) (ph HK))); replace HK := uD (KeepBut.trans (ph HK) hk (.inl rfl)); replace HB := uD (hb); replace HI0 := uD (hi); (try clear hb); (try clear hb2); (try clear hk); (try clear hi); (try clear ho0)) | ((with_reducible refine gate_dst (N := 3) rfl ?_); refine bx 3 #[.int .i64 0, .int .i64 0, .bool false, .slice none 0 0] 29 ?_; intro gb338 hg w143 hbox hb; replace HO335 := uD (Kd.R_below (pr HO335) hb); replace HB := uD (uO (pB HB (IsS85.ge HI0.out)) hb); have BK338 := uD (hbox); have GW338 := uD ((by rw [hg]; exact (keep_size (w := w) (g := g) (row := none) (ph HK)) : w.heap.size ≤ gb338)); have GE338 := uD ((Nat.le_trans HW0.out (by rw [hg]; exact (keep_size (w := w) (g := g) (row := none) (ph HK)) : w.heap.size ≤ gb338) : w0.heap.size ≤ gb338)); replace HK := uD (KeepBut.trans (ph HK) (KeepBut.of_below hb g none) (.inl rfl)); have NB329_338 := uD ((by rw [hg]; exact Nat.ne_of_lt (blk_lt (pk BK329)) : gb329 ≠ gb338)); have NB338_329 := uD ((by rw [hg]; exact Nat.ne_of_gt (blk_lt (pk BK329)) : gb338 ≠ gb329)); replace BK329 := uD (blk_below (pk BK329) hb); have NB0_338 := uD ((by rw [hg]; exact Nat.ne_of_lt (IsS85.lt (show IsS85 w0 _ g s0_0 t336 t337 from IsS85.p HI0)) : g ≠ gb338)); have NB338_0 := uD ((by rw [hg]; exact Nat.ne_of_gt (IsS85.lt (show IsS85 w0 _ g s0_0 t336 t337 from IsS85.p HI0)) : gb338 ≠ g)); replace HI0 := uD (IsS85.below (IsS85.p HI0) hb); clear hb hbox hg; have hnb144 := NB338_329.out; have hnc144 := NB329_338.out; have hnb145 := NB338_0.out; have hnc145 := NB0_338.out; obtain ⟨hcz146_0, hcz146_1, hcz146_2, hcz146_3, hfz146_0, hfz146_1, hfz146_2, hfz146_3⟩ := cz4 BK338; obtain ⟨Ao147, co147, eo147⟩ := Kd.R_slice HO335.out; subst eo147) | ((with_reducible refine gate_callee (f := 75) rfl ?_); refine gl (some 12) Try.func75 #[.pointer (some ⟨g, 0, none⟩), .int .i64 18] ?_; (with_reducible refine (spec_l01Below.calls g s0_0 t336 t337 18 t339 t340 t341 w0 _ ?side1 ?side2 A3.out).mono ?_); (case side1 => exact IsS85.p HI0); (case side2 => exact pB HB (IsS85.ge HI0.out)); rintro e w148 ⟨rfl, hi, hb, hk⟩; refine ⟨_, rfl, ?_⟩; replace BK329 := uD (KeepBut.blk hk (g' := gb329) (o := .cells #[.int .i64 0, .int .i64 0, .bool false, .slice none 0 0] 29 (0, 0)) (by exact ps BK329) NB329_0.out (by simp)); replace HO335 := uD (uX (Kd.R_keep (IsS85.apart (show IsS85 w0 _ g s0_0 t336 t337 from IsS85.p HI0) (by (with_reducible repeat (first | apply uU | apply uS | apply uT)); exact (uX (uV (p := ⟨gb338, 3, none⟩) (uV (p := ⟨gb338, 2, none⟩) (uV (p := ⟨gb338, 1, none⟩) (uV (p := ⟨gb338, 0, none⟩) (uW HO335.out BK338.out (by decide)) (fun _ hk => hk.2) (.int .i64 t330)) (fun _ hk => hk.2) (.int .i64 t331)) (fun _ hk => hk.2) (.bool t332)) (fun _ hk => hk.2) (.slice Ao147 t333.length co147)) (fun _ h_ => h_.1))) (by decide)) hk (fun _ h => h.2)) (fun _ h => h.1)); replace BK338 := uD (KeepBut.blk hk (g' := gb338) (o := .cells #[.int .i64 t330, .int .i64 t331, .bool t332, .slice Ao147 t333.length co147] 29 (0, 0)) (by (with_reducible repeat first|apply uH|apply uJ|apply uG); refine uP (cs := #[.int .i64 t330, .int .i64 t331, .bool t332, .slice none 0 0]) ?_ 3 _ rfl; (with_reducible repeat first|apply uH|apply uJ|apply uG); refine uP (cs := #[.int .i64 t330, .int .i64 t331, .bool false, .slice none 0 0]) ?_ 2 _ rfl; (with_reducible repeat first|apply uH|apply uJ|apply uG); refine uP (cs := #[.int .i64 t330, .int .i64 0, .bool false, .slice none 0 0]) ?_ 1 _ rfl; (with_reducible repeat first|apply uH|apply uJ|apply uG); refine uP (cs := #[.int .i64 0, .int .i64 0, .bool false, .slice none 0 0]) ?_ 0 _ rfl; (with_reducible repeat first|apply uH|apply uJ|apply uG); exact BK338.out) NB338_0.out (by simp)); replace HK := uD (KeepBut.trans (ph HK) hk (.inl rfl)); replace HB := uD (hb); replace HI0 := uD (hi); (try clear hb); (try clear hb2); (try clear hk); (try clear hi); obtain ⟨hcz149_0, hcz149_1, hcz149_2, hcz149_3, hfz149_0, hfz149_1, hfz149_2, hfz149_3⟩ := cz4 BK338))
       go_loopg [5] k (fun kq v5 w' => ∃ (x5_1 : Int) (x1001_1 : Int) (x1002_1 : Int) (x339003_1 : List (S53)) (u339003 : Value), v5 = .int .i64 x5_1 ∧ Aside0 (spec_l02Any.l0 kq x5_1 s0_0 x1001_1 x1002_1 400 0 false x339003_1 = some (r1, r2, r3, r4, r5, r6)) ∧ Aside0 (kq ≤ k) ∧ Aside0 (Kd.R k53 53 w' w.heap.size (fun _ => True) u339003 x339003_1) ∧ Aside0 (w'.heap[gb329]? = some (.cells #[.int .i64 0, .int .i64 0, .bool false, (.slice none 0 0)] 29 (0, 0))) ∧ Aside0 (w'.heap[gb338]? = some (.cells #[.int .i64 400, .int .i64 0, .bool false, u339003] 29 (0, 0))) ∧ Aside0 (IsS85 w0 w' g s0_0 x1001_1 x1002_1) ∧ Aside0 (KeepBut w w' g none) ∧ Aside0 (Below w0.heap.size w0 w'))
       case atStart => exact ⟨(0), (t340), (t341), (([] : List (S53))), (.slice none 0 0), (by first | rfl | (simp; done) | (simp [*]; done)), H', ⟨Nat.le_refl _⟩, ⟨by first | exact Kd.R_nil _ _ _ _ _ | exact Kd.N_nil _ _ _ _ _ | exact Kd.V_nil _ _ _ _ _ | exact Kd.Q_nil _ _ _ _ _ | exact Kd.S_nil _ _ _ _ _⟩, ⟨by exact ps BK329⟩, ⟨by (with_reducible repeat first|apply uH|apply uJ|apply uG); refine uP (cs := #[.int .i64 400, .int .i64 0, .bool false, .slice Ao147 t333.length co147]) ?_ 3 _ rfl; (with_reducible repeat first|apply uH|apply uJ|apply uG); refine uP (cs := #[.int .i64 400, .int .i64 0, .bool t332, .slice Ao147 t333.length co147]) ?_ 2 _ rfl; (with_reducible repeat first|apply uH|apply uJ|apply uG); refine uP (cs := #[.int .i64 400, .int .i64 t331, .bool t332, .slice Ao147 t333.length co147]) ?_ 1 _ rfl; (with_reducible repeat first|apply uH|apply uJ|apply uG); refine uP (cs := #[.int .i64 t330, .int .i64 t331, .bool t332, .slice Ao147 t333.length co147]) ?_ 0 _ rfl; (with_reducible repeat first|apply uH|apply uJ|apply uG); exact BK338.out⟩, ⟨IsS85.p HI0⟩, ⟨ph HK⟩, ⟨pB HB (IsS85.ge HI0.out)⟩⟩
       case round =>
        clear H'
        try clear c1
        try clear p1
        try clear q1
        try clear hx1
        try clear qi1
        try clear hf1
        try clear p2
        try clear c3
        try clear p3
        try clear q3
        try clear hx3
        try clear c4
        try clear c6
        try clear p6
        try clear c7
        try clear p7
        try clear q7
        try clear hx7
        try clear hf7
        try clear c8
        try clear c9
        try clear c10
        try clear c11
        try clear p11
        try clear q11
        try clear hx11
        try clear qi11
        try clear hf11
        try clear c12
        try clear c13
        try clear c14
        try clear p35
        try clear q35
        try clear hx35
        try clear c38
        try clear c38b0
        try clear c38b1
        try clear c39
        try clear c39b0
        try clear c39b1
        try clear c40
        try clear c42
        try clear c43
        try clear c62
        try clear c63
        try clear p64
        try clear c66
        try clear c67
        try clear c68
        try clear c70
        try clear c70b0
        try clear c70b1
        try clear c71
        try clear c71b0
        try clear c71b1
        try clear c73
        try clear c73b0
        try clear c74
        try clear c74b0
        try clear c75
        try clear c76
        try clear p76
        try clear q76
        try clear hx76
        try clear hf76
        try clear c80
        try clear c81
        try clear c90
        try clear c93
        try clear c98
        try clear c99
        try clear c104
        try clear c106
        try clear c106b0
        try clear c106b1
        try clear c107
        try clear c107b0
        try clear c107b1
        try clear c109
        try clear c109b0
        try clear c109b1
        try clear c110
        try clear p110
        try clear q110
        try clear hx110
        try clear qi110
        try clear hf110
        try clear c114
        try clear c115
        try clear c124
        try clear c127
        try clear c132
        try clear c133
        try clear c138
        try clear c140
        try clear c140b0
        try clear c140b1
        try clear c144
        try clear c145
        try clear hcz100_0
        try clear hcz100_1
        try clear hcz100_2
        try clear hcz100_3
        try clear hcz103_0
        try clear hcz103_1
        try clear hcz103_2
        try clear hcz103_3
        try clear hcz105_0
        try clear hcz105_1
        try clear hcz105_2
        try clear hcz105_3
        try clear hcz116_0
        try clear hcz116_1
        try clear hcz116_2
        try clear hcz116_3
        try clear hcz126_0
        try clear hcz126_1
        try clear hcz126_2
        try clear hcz126_3
        try clear hcz128_0
        try clear hcz128_1
        try clear hcz128_2
        try clear hcz128_3
        try clear hcz134_0
        try clear hcz134_1
        try clear hcz134_2
        try clear hcz134_3
        try clear hcz137_0
        try clear hcz137_1
        try clear hcz137_2
        try clear hcz137_3
        try clear hcz139_0
        try clear hcz139_1
        try clear hcz139_2
        try clear hcz139_3
        try clear hcz146_0
        try clear hcz146_1
        try clear hcz146_2
        try clear hcz146_3
        try clear hcz149_0
        try clear hcz149_1
        try clear hcz149_2
        try clear hcz149_3
        try clear hcz64_0
        try clear hcz64_1
        try clear hcz64_2
        try clear hcz64_3
        try clear hcz67_0
        try clear hcz67_1
        try clear hcz67_2
        try clear hcz67_3
        try clear hcz69_0
        try clear hcz69_1
        try clear hcz69_2
        try clear hcz69_3
        try clear hcz82_0
        try clear hcz82_1
        try clear hcz82_2
        try clear hcz82_3
        try clear hcz92_0
        try clear hcz92_1
        try clear hcz92_2
        try clear hcz92_3
        try clear hcz94_0
        try clear hcz94_1
        try clear hcz94_2
        try clear hcz94_3
        try clear hfz100_0
        try clear hfz100_1
        try clear hfz100_2
        try clear hfz100_3
        try clear hfz103_0
        try clear hfz103_1
        try clear hfz103_2
        try clear hfz103_3
        try clear hfz105_0
        try clear hfz105_1
        try clear hfz105_2
        try clear hfz105_3
        try clear hfz116_0
        try clear hfz116_1
        try clear hfz116_2
        try clear hfz116_3
        try clear hfz126_0
        try clear hfz126_1
        try clear hfz126_2
        try clear hfz126_3
        try clear hfz128_0
        try clear hfz128_1
        try clear hfz128_2
        try clear hfz128_3
        try clear hfz134_0
        try clear hfz134_1
        try clear hfz134_2
        try clear hfz134_3
        try clear hfz137_0
        try clear hfz137_1
        try clear hfz137_2
        try clear hfz137_3
        try clear hfz139_0
        try clear hfz139_1
        try clear hfz139_2
        try clear hfz139_3
        try clear hfz146_0
        try clear hfz146_1
        try clear hfz146_2
        try clear hfz146_3
        try clear hfz149_0
        try clear hfz149_1
        try clear hfz149_2
        try clear hfz149_3
        try clear hfz58_2
        try clear hfz58_3
        try clear hfz64_0
        try clear hfz64_1
        try clear hfz64_2
        try clear hfz64_3
        try clear hfz67_0
        try clear hfz67_1
        try clear hfz67_2
        try clear hfz67_3
        try clear hfz69_0
        try clear hfz69_1
        try clear hfz69_2
        try clear hfz69_3
        try clear hfz82_0
        try clear hfz82_1
        try clear hfz82_2
        try clear hfz82_3
        try clear hfz92_0
        try clear hfz92_1
        try clear hfz92_2
        try clear hfz92_3
        try clear hfz94_0
        try clear hfz94_1
        try clear hfz94_2
        try clear hfz94_3
        try clear hx110_0
        try clear hx110_1
        try clear hx110_2
        try clear hx356_0
        try clear hx356_1
        try clear hx356_2
        try clear hx76_0
        try clear hx76_1
        try clear hx76_2
        try clear p110
        try clear p356
        try clear p76
        try clear q110
        try clear q356
        try clear q76
        obtain ⟨x5_1, x1001_1, x1002_1, x339003_1, u339003, rfl, HA, HK1, HO_339003, BK329, BK338, HI0, HK, HB⟩ := hrel
        cases gk with
        | zero => exact absurd HA.out (by simp [spec_l02Any.l0])
        | succ k1 =>
         have H := HA.out
         clear HA
         simp only [spec_l02Any.l0] at H
         replace H := Option.bind_eq_some_iff.mp H
         obtain ⟨⟨t371, t372, t373⟩, A1500, H⟩ := H
         replace H : (if x5_1 < (wrap64 (40 + t371)) then (if x339003_1.length < 5864062014805 then (spec_l02Any.l0 k1 (wrap64 (x5_1 + 1)) s0_0 t372 t373 400 0 false (x339003_1 ++ [(⟨wrap64 (x5_1 + 1), wrap64 (400 - x5_1), 1⟩ : S53)])) else (none)) else (some (400, 0, false, x339003_1, t372, t373))) = some (r1, r2, r3, r4, r5, r6) := H
         have A150 := uD A1500
         clear A1500
         by_cases c151 : x5_1 < (wrap64 (40 + t371))
         ·rw [if_pos c151] at H
          have c151b0 : decide (x5_1 < (wrap64 (40 + t371))) = true := decide_eq_true c151
          clear c151
          by_cases c152 : x339003_1.length < 5864062014805
          ·rw [if_pos c152] at H
           have LMc152 := uD c152
           clear c152
           obtain ⟨y374, hy374⟩ : ∃ y_ : List (S53), y_ = (x339003_1 ++ [(⟨wrap64 (x5_1 + 1), wrap64 (400 - x5_1), 1⟩ : S53)]) := ⟨_, rfl⟩
           replace H : (spec_l02Any.l0 k1 (wrap64 (x5_1 + 1)) s0_0 t372 t373 400 0 false y374) = some (r1, r2, r3, r4, r5, r6) := by first | (rw [hy374]; with_reducible exact H) | (have H2_ := (Option.bind_some _ _).symm.trans H; rw [hy374]; with_reducible exact H2_) | (have H2_ := (Option.bind_some _ _).symm.trans H; with_reducible exact H2_) | with_reducible exact H | (rw [hy374]; exact H) | exact H
           have Ny374 := uD hy374
           clear hy374
           have H' := uD H
           clear H
           go_wp2_with (first | ((with_reducible refine gate_callee (f := 75) rfl ?_); refine gl (some 77) Try.func75 #[.pointer (some ⟨g, 0, none⟩), .int .i64 2] ?_; (with_reducible refine (spec_l01Below.calls g s0_0 x1001_1 x1002_1 2 t371 t372 t373 w0 _ ?side1 ?side2 A150.out).mono ?_); (case side1 => exact IsS85.p HI0); (case side2 => exact pB HB (IsS85.ge HI0.out)); rintro e w153 ⟨rfl, hi, hb, hk⟩; refine ⟨_, rfl, ?_⟩; replace HO_339003 := uD (uX (Kd.R_keep (IsS85.apart (show IsS85 w0 _ g s0_0 x1001_1 x1002_1 from IsS85.p HI0) (pr HO_339003) (by decide)) hk (fun _ h => h.2)) (fun _ h => h.1)); replace BK329 := uD (KeepBut.blk hk (pk BK329) NB329_0.out (by simp)); replace BK338 := uD (KeepBut.blk hk (pk BK338) NB338_0.out (by simp)); replace HK := uD (KeepBut.trans (ph HK) hk (.inl rfl)); replace HB := uD (hb); replace HI0 := uD (hi); (try clear hb); (try clear hb2); (try clear hk); (try clear hi); have hnb154 := NB338_329.out; have hnc154 := NB329_338.out; have hnb155 := NB338_0.out; have hnc155 := NB0_338.out; obtain ⟨hcz156_0, hcz156_1, hcz156_2, hcz156_3, hfz156_0, hfz156_1, hfz156_2, hfz156_3⟩ := cz4 BK338) | ((with_reducible refine gate_builtin (b := .append) (xs := #[.tmp 83, .tmp 89]) rfl ?_); at_builtin; refine Kd.R_append k53 w.heap.size rfl (.tmp 83) (.tmp 89) 27 53 (.agg #[(.int .i64 0), (.int .i64 0), (.int .i64 0)]) 24 rfl Try.underlying27 info53 rfl (by decide) (by omega) u339003 x339003_1 (⟨wrap64 (x5_1 + 1), wrap64 (400 - x5_1), 1⟩ : S53) [.int .i64 (wrap64 (x5_1 + 1)), .int .i64 (wrap64 (400 - x5_1)), .int .i64 1] (fun _ => True) (fun _ => False) rfl rfl ?aP (fun _ hk => hk.elim) ?aF ?aO (Below.refl _ _) ?aS ?aL ?_; (case aP => exact k53_mkM _ _ _ (⟨wrap64 (x5_1 + 1), wrap64 (400 - x5_1), 1⟩ : S53)); (case aF => exact (fun _ _ => trivial)); (case aO => exact (pr HO_339003)); (case aS => exact (keep_size (w := w) (g := g) (row := none) (ph HK))); (case aL => have := LMc152.out; omega); intro v375 w157 ho hb hg hat; rw [← Ny374.out] at ho; replace BK329 := uD (blk_grown (pk BK329) hg (Kd.R_ne HO_339003.out BK329.out (by decide))); replace BK338 := uD (blk_grown (pk BK338) hg (Kd.R_ne HO_339003.out BK338.out (by decide))); replace HB := uD (below_weaken (pB HB (IsS85.ge HI0.out)) HL.out hb); replace HI0 := uD (IsS85.grown (IsS85.p HI0) hg (IsS85.own_ne HI0.out HO_339003.out (by decide))); replace HK := uD (KeepBut.trans (ph HK) (KeepBut.of_grown hg g) (Kd.R_base2 HO_339003.out)); have HO376 := uD (ho); clear HO_339003; clear ho hb hg hat; obtain ⟨Ao158, co158, eo158⟩ := Kd.R_slice HO376.out; subst eo158; obtain ⟨hcz159_0, hcz159_1, hcz159_2, hcz159_3, hfz159_0, hfz159_1, hfz159_2, hfz159_3⟩ := cz4 BK338))
           go_roundg k1
           case measure => have := HK1.out; omega
           case rel => exact ⟨(wrap64 (x5_1 + 1)), (t372), (t373), (y374), (.slice Ao158 y374.length co158), (by first | rfl | (simp; done) | (simp [*]; done)), H', ⟨by have := HK1.out; omega⟩, ⟨by (with_reducible repeat (first | apply uU | apply uS | apply uT)); exact uX (uV (p := ⟨gb338, 3, none⟩) (uW HO376.out BK338.out (by decide)) (fun _ hk => hk.2) (.slice Ao158 y374.length co158)) (fun _ hk => trivial)⟩, ⟨by exact ps BK329⟩, ⟨by (with_reducible repeat first|apply uH|apply uJ|apply uG); refine uP (cs := #[.int .i64 400, .int .i64 0, .bool false, u339003]) ?_ 3 _ rfl; (with_reducible repeat first|apply uH|apply uJ|apply uG); exact BK338.out⟩, ⟨IsS85.p HI0⟩, ⟨ph HK⟩, ⟨pB HB (IsS85.ge HI0.out)⟩⟩
          ·rw [if_neg c152] at H
           exact absurd H (by simp)
         ·rw [if_neg c151] at H
          have c151b0 : decide (x5_1 < (wrap64 (40 + t371))) = false := decide_eq_false c151
          clear c151
          simp only [Option.some.injEq, Prod.mk.injEq] at H
          obtain ⟨rfl, rfl, rfl, rfl, rfl, rfl⟩ := H
          go_wp2_with (first | ((with_reducible refine gate_callee (f := 75) rfl ?_); refine gl (some 77) Try.func75 #[.pointer (some ⟨g, 0, none⟩), .int .i64 2] ?_; (with_reducible refine (spec_l01Below.calls g s0_0 x1001_1 x1002_1 2 t371 t372 t373 w0 _ ?side1 ?side2 A150.out).mono ?_); (case side1 => exact IsS85.p HI0); (case side2 => exact pB HB (IsS85.ge HI0.out)); rintro e w160 ⟨rfl, hi, hb, hk⟩; refine ⟨_, rfl, ?_⟩; replace HO_339003 := uD (uX (Kd.R_keep (IsS85.apart (show IsS85 w0 _ g s0_0 x1001_1 x1002_1 from IsS85.p HI0) (pr HO_339003) (by decide)) hk (fun _ h => h.2)) (fun _ h => h.1)); replace BK329 := uD (KeepBut.blk hk (pk BK329) NB329_0.out (by simp)); replace BK338 := uD (KeepBut.blk hk (pk BK338) NB338_0.out (by simp)); replace HK := uD (KeepBut.trans (ph HK) hk (.inl rfl)); replace HB := uD (hb); replace HI0 := uD (hi); (try clear hb); (try clear hb2); (try clear hk); (try clear hi); have hnb161 := NB338_329.out; have hnc161 := NB329_338.out; have hnb162 := NB338_0.out; have hnc162 := NB0_338.out; obtain ⟨hcz163_0, hcz163_1, hcz163_2, hcz163_3, hfz163_0, hfz163_1, hfz163_2, hfz163_3⟩ := cz4 BK338; have hnb164 := NB329_0.out; have hnc164 := NB0_329.out; obtain ⟨hcz165_0, hcz165_1, hcz165_2, hcz165_3, hfz165_0, hfz165_1, hfz165_2, hfz165_3⟩ := cz4 BK329; obtain ⟨Ao166, co166, eo166⟩ := Kd.R_slice HO_339003.out; subst eo166))
          refine bodyPost_ret (results_cell_row rfl _ _ gb329 29 #[.int .i64 400, .int .i64 0, .bool false, .slice Ao166 x339003_1.length co166] (0, 0) _ rfl (by (with_reducible repeat first|apply uH|apply uJ|apply uG); refine uP (cs := #[.int .i64 400, .int .i64 0, .bool false, .slice none 0 0]) ?_ 3 _ rfl; (with_reducible repeat first|apply uH|apply uJ|apply uG); refine uP (cs := #[.int .i64 400, .int .i64 0, .bool false, .slice none 0 0]) ?_ 2 _ rfl; (with_reducible repeat first|apply uH|apply uJ|apply uG); refine uP (cs := #[.int .i64 400, .int .i64 0, .bool false, .slice none 0 0]) ?_ 1 _ rfl; (with_reducible repeat first|apply uH|apply uJ|apply uG); refine uP (cs := #[.int .i64 0, .int .i64 0, .bool false, .slice none 0 0]) ?_ 0 _ rfl; (with_reducible repeat first|apply uH|apply uJ|apply uG); exact BK329.out) Try.underlying29 rfl (by kernel_rfl)) rfl ?_
          exact ⟨_, by first | rfl | (simp [errW_none, errW_some] <;> rfl) | (simp [*, errW_none, errW_some] <;> rfl), by (with_reducible repeat (first | apply uU | apply uS | apply uT)); exact uX (uV (p := ⟨gb329, 3, none⟩) (uV (p := ⟨gb329, 2, none⟩) (uV (p := ⟨gb329, 1, none⟩) (uV (p := ⟨gb329, 0, none⟩) (uW HO_339003.out BK329.out (by decide)) (fun _ hk => hk.2) (.int .i64 400)) (fun _ hk => hk.2) (.int .i64 0)) (fun _ hk => hk.2) (.bool false)) (fun _ hk => hk.2) (.slice Ao166 x339003_1.length co166)) (fun _ hk => trivial), IsS85.p HI0, pB HB (IsS85.ge HI0.out), ph HK⟩
      ·rw [if_neg c140] at H
       have c140b0 : (t339 == 5) = false := beq_eq_false_iff_ne.mpr c140
       have c140b1 : (t339 != 5) = true := bne_iff_ne.mpr c140
       simp only [Option.some.injEq, Prod.mk.injEq] at H
       obtain ⟨rfl, rfl, rfl, rfl, rfl, rfl⟩ := H
       go_enter Try.func66, Try.ntmps66
       go_wp2_with (first | ((with_reducible refine gate_dst (N := 2) rfl ?_); refine bx 2 #[.int .i64 0, .int .i64 0, .bool false, .slice none 0 0] 29 ?_; intro gb329 hg w167 hbox hb; replace HB := uD (uO (pB HB (IsS85.ge HI0.out)) hb); have BK329 := uD (hbox); have GW329 := uD ((by rw [hg]; exact (keep_size (w := w) (g := g) (row := none) (ph HK)) : w.heap.size ≤ gb329)); have GE329 := uD ((Nat.le_trans HW0.out (by rw [hg]; exact (keep_size (w := w) (g := g) (row := none) (ph HK)) : w.heap.size ≤ gb329) : w0.heap.size ≤ gb329)); replace HK := uD (KeepBut.trans (ph HK) (KeepBut.of_below hb g none) (.inl rfl)); have NB0_329 := uD ((by rw [hg]; exact Nat.ne_of_lt (IsS85.lt (show IsS85 w0 _ g s0_0 s0_1 s0_2 from IsS85.p HI0)) : g ≠ gb329)); have NB329_0 := uD ((by rw [hg]; exact Nat.ne_of_gt (IsS85.lt (show IsS85 w0 _ g s0_0 s0_1 s0_2 from IsS85.p HI0)) : gb329 ≠ g)); replace HI0 := uD (IsS85.below (IsS85.p HI0) hb); clear hb hbox hg) | ((with_reducible refine gate_callee (f := 74) rfl ?_); refine gl (some 7) Try.func74 #[.pointer (some ⟨g, 0, none⟩)] ?_; (with_reducible refine (spec_l02Belt.calls k g s0_0 s0_1 s0_2 t330 t331 t332 t333 t336 t337 w0 _ ?side1 ?side2 A2.out).mono ?_); (case side1 => exact IsS85.p HI0); (case side2 => exact pB HB (IsS85.ge HI0.out)); rintro e w168 ⟨v334, rfl, ho0, hi, hb, hk⟩; refine ⟨_, rfl, ?_⟩; replace BK329 := uD (KeepBut.blk hk (pk BK329) NB329_0.out (by simp)); have HO335 := uD (Kd.R_lower ho0 (keep_size (w := w) (g := g) (row := none) (ph HK))); replace HK := uD (KeepBut.trans (ph HK) hk (.inl rfl)); replace HB := uD (hb); replace HI0 := uD (hi); (try clear hb); (try clear hb2); (try clear hk); (try clear hi); (try clear ho0)) | ((with_reducible refine gate_dst (N := 3) rfl ?_); refine bx 3 #[.int .i64 0, .int .i64 0, .bool false, .slice none 0 0] 29 ?_; intro gb338 hg w169 hbox hb; replace HO335 := uD (Kd.R_below (pr HO335) hb); replace HB := uD (uO (pB HB (IsS85.ge HI0.out)) hb); have BK338 := uD (hbox); have GW338 := uD ((by rw [hg]; exact (keep_size (w := w) (g := g) (row := none) (ph HK)) : w.heap.size ≤ gb338)); have GE338 := uD ((Nat.le_trans HW0.out (by rw [hg]; exact (keep_size (w := w) (g := g) (row := none) (ph HK)) : w.heap.size ≤ gb338) : w0.heap.size ≤ gb338)); replace HK := uD (KeepBut.trans (ph HK) (KeepBut.of_below hb g none) (.inl rfl)); have NB329_338 := uD ((by rw [hg]; exact Nat.ne_of_lt (blk_lt (pk BK329)) : gb329 ≠ gb338)); have NB338_329 := uD ((by rw [hg]; exact Nat.ne_of_gt (blk_lt (pk BK329)) : gb338 ≠ gb329)); replace BK329 := uD (blk_below (pk BK329) hb); have NB0_338 := uD ((by rw [hg]; exact Nat.ne_of_lt (IsS85.lt (show IsS85 w0 _ g s0_0 t336 t337 from IsS85.p HI0)) : g ≠ gb338)); have NB338_0 := uD ((by rw [hg]; exact Nat.ne_of_gt (IsS85.lt (show IsS85 w0 _ g s0_0 t336 t337 from IsS85.p HI0)) : gb338 ≠ g)); replace HI0 := uD (IsS85.below (IsS85.p HI0) hb); clear hb hbox hg; have hnb170 := NB338_329.out; have hnc170 := NB329_338.out; have hnb171 := NB338_0.out; have hnc171 := NB0_338.out; obtain ⟨hcz172_0, hcz172_1, hcz172_2, hcz172_3, hfz172_0, hfz172_1, hfz172_2, hfz172_3⟩ := cz4 BK338; obtain ⟨Ao173, co173, eo173⟩ := Kd.R_slice HO335.out; subst eo173) | ((with_reducible refine gate_callee (f := 75) rfl ?_); refine gl (some 12) Try.func75 #[.pointer (some ⟨g, 0, none⟩), .int .i64 18] ?_; (with_reducible refine (spec_l01Below.calls g s0_0 t336 t337 18 t339 t340 t341 w0 _ ?side1 ?side2 A3.out).mono ?_); (case side1 => exact IsS85.p HI0); (case side2 => exact pB HB (IsS85.ge HI0.out)); rintro e w174 ⟨rfl, hi, hb, hk⟩; refine ⟨_, rfl, ?_⟩; replace BK329 := uD (KeepBut.blk hk (g' := gb329) (o := .cells #[.int .i64 0, .int .i64 0, .bool false, .slice none 0 0] 29 (0, 0)) (by exact ps BK329) NB329_0.out (by simp)); replace HO335 := uD (uX (Kd.R_keep (IsS85.apart (show IsS85 w0 _ g s0_0 t336 t337 from IsS85.p HI0) (by (with_reducible repeat (first | apply uU | apply uS | apply uT)); exact (uX (uV (p := ⟨gb338, 3, none⟩) (uV (p := ⟨gb338, 2, none⟩) (uV (p := ⟨gb338, 1, none⟩) (uV (p := ⟨gb338, 0, none⟩) (uW HO335.out BK338.out (by decide)) (fun _ hk => hk.2) (.int .i64 t330)) (fun _ hk => hk.2) (.int .i64 t331)) (fun _ hk => hk.2) (.bool t332)) (fun _ hk => hk.2) (.slice Ao173 t333.length co173)) (fun _ h_ => h_.1))) (by decide)) hk (fun _ h => h.2)) (fun _ h => h.1)); replace BK338 := uD (KeepBut.blk hk (g' := gb338) (o := .cells #[.int .i64 t330, .int .i64 t331, .bool t332, .slice Ao173 t333.length co173] 29 (0, 0)) (by (with_reducible repeat first|apply uH|apply uJ|apply uG); refine uP (cs := #[.int .i64 t330, .int .i64 t331, .bool t332, .slice none 0 0]) ?_ 3 _ rfl; (with_reducible repeat first|apply uH|apply uJ|apply uG); refine uP (cs := #[.int .i64 t330, .int .i64 t331, .bool false, .slice none 0 0]) ?_ 2 _ rfl; (with_reducible repeat first|apply uH|apply uJ|apply uG); refine uP (cs := #[.int .i64 t330, .int .i64 0, .bool false, .slice none 0 0]) ?_ 1 _ rfl; (with_reducible repeat first|apply uH|apply uJ|apply uG); refine uP (cs := #[.int .i64 0, .int .i64 0, .bool false, .slice none 0 0]) ?_ 0 _ rfl; (with_reducible repeat first|apply uH|apply uJ|apply uG); exact BK338.out) NB338_0.out (by simp)); replace HK := uD (KeepBut.trans (ph HK) hk (.inl rfl)); replace HB := uD (hb); replace HI0 := uD (hi); (try clear hb); (try clear hb2); (try clear hk); (try clear hi); obtain ⟨hcz175_0, hcz175_1, hcz175_2, hcz175_3, hfz175_0, hfz175_1, hfz175_2, hfz175_3⟩ := cz4 BK338; have hnb176 := NB329_0.out; have hnc176 := NB0_329.out; obtain ⟨hcz177_0, hcz177_1, hcz177_2, hcz177_3, hfz177_0, hfz177_1, hfz177_2, hfz177_3⟩ := cz4 BK329))
       refine bodyPost_ret (results_cell_row rfl _ _ gb329 29 #[.int .i64 t330, .int .i64 t331, .bool t332, .slice Ao173 t333.length co173] (0, 0) _ rfl (by (with_reducible repeat first|apply uH|apply uJ|apply uG); refine uP (cs := #[.int .i64 t330, .int .i64 t331, .bool t332, .slice none 0 0]) ?_ 3 _ rfl; (with_reducible repeat first|apply uH|apply uJ|apply uG); refine uP (cs := #[.int .i64 t330, .int .i64 t331, .bool false, .slice none 0 0]) ?_ 2 _ rfl; (with_reducible repeat first|apply uH|apply uJ|apply uG); refine uP (cs := #[.int .i64 t330, .int .i64 0, .bool false, .slice none 0 0]) ?_ 1 _ rfl; (with_reducible repeat first|apply uH|apply uJ|apply uG); refine uP (cs := #[.int .i64 0, .int .i64 0, .bool false, .slice none 0 0]) ?_ 0 _ rfl; (with_reducible repeat first|apply uH|apply uJ|apply uG); exact BK329.out) Try.underlying29 rfl (by kernel_rfl)) rfl ?_
       exact ⟨_, by first | rfl | (simp [errW_none, errW_some] <;> rfl) | (simp [*, errW_none, errW_some] <;> rfl), by (with_reducible repeat (first | apply uU | apply uS | apply uT)); exact uX (uV (p := ⟨gb329, 3, none⟩) (uV (p := ⟨gb329, 2, none⟩) (uV (p := ⟨gb329, 1, none⟩) (uV (p := ⟨gb329, 0, none⟩) (uW HO335.out BK329.out (by decide)) (fun _ hk => hk.2) (.int .i64 t330)) (fun _ hk => hk.2) (.int .i64 t331)) (fun _ hk => hk.2) (.bool t332)) (fun _ hk => hk.2) (.slice Ao173 t333.length co173)) (fun _ hk => trivial), IsS85.p HI0, pB HB (IsS85.ge HI0.out), ph HK⟩

end Go.Proofs.Ytbdjbdoelbmjcaa.PFnBeltEnters
