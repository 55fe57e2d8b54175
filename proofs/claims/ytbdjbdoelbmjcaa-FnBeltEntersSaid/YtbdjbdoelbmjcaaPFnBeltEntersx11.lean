-- Written by a program of this session (wip/myprint.py: the kit's print with changes): not by print.sh itself.
import Derived.Test.YtbdjbdoelbmjcaaPFnBeltEntersx0
import Derived.Test.YtbdjbdoelbmjcaaPFnBeltEntersx10
namespace Go.Proofs.Ytbdjbdoelbmjcaa.PFnBeltEnters
open Go.RowKit Go.Proofs.YtbdjbdoelbmjcaaW.PrintWords Go.Proofs.YtbdjbdoelbmjcaaW.PrintLast Go.Proofs.YtbdjbdoelbmjcaaW.PrintMore
open Go renaming Act.put → uc
open Go.Proofs.YtbdjbdoelbmjcaaW.PrintLast renaming i64_w → uZ, i32_w → ua, pure_ → ub
open Go.Proofs.YtbdjbdoelbmjcaaW.PrintWords renaming Aside0.mk → uD, blk_cell → uF, blk_alloc → uG, blk_drewN → uH, blk_frozen → uI, blk_drew → uJ, below_drew1 → uK, below_step → uO, blk_put → uP, Kd.R_drewN → uS, Kd.R_drew → uT, Kd.R_alloc → uU, Kd.R_far → uV, Kd.R_types → uW, Kd.R_mono → uX
open List renaming setIfInBounds_toArray → uA, set_cons_zero → uB, set_cons_succ → uC
open Bool renaming true → T, false → F
attribute [local go_sem] max2_int min2_int max_two min_two max_three min_three max_four min_four   -- for this text's walks alone
set_option linter.unusedVariables false
set_option linter.unusedSimpArgs false

/-! ### spec_l02Belt: function 74 -/
def spec_l02Belt.l0 : Nat → Int → Int → List Int → Int → Int → Int → Int → Bool → List (S53) → Option (Int × Int × Bool × (List (S53)) × Int × Int)
 | 0, _, _, _, _, _, _, _, _, _ => none
 | k + 1, x4, x5, x1000, x1001, x1002, x305000, x305001, x305002, x305003 => if x5 > 0 then ((spec_l01Below.f x1000 x1001 x1002 9).bind fun bt314 => (if x4 < (wrap64 (1 + bt314.1)) then (some (x305000, x305001, x305002, x305003, bt314.2.1, bt314.2.2)) else ((spec_l01Below.f x1000 bt314.2.1 bt314.2.2 9).bind fun bt317 => (if x305003.length < 5864062014805 then ((spec_l01PickInt.f x1000 bt317.2.1 bt317.2.2 (([0, 0, 1, 2, 6] : List Int))).bind fun bt326 => (spec_l02Belt.l0 k (wrap64 ((wrap64 ((wrap64 (x4 - (wrap64 (1 + bt314.1)))) - x305001)) - bt326.1)) (wrap64 (x5 - 1)) x1000 bt326.2.1 bt326.2.2 x305000 x305001 x305002 (x305003 ++ [(⟨wrap64 ((wrap64 ((wrap64 (10 * (x305003.length : Int))) + 1)) + bt317.1), x4, wrap64 (1 + bt314.1)⟩ : S53)]))) else (none))))) else (some (x305000, x305001, x305002, x305003, x1001, x1002))
def spec_l02Belt.f (k : Nat) (s0_0 : List Int) (s0_1 : Int) (s0_2 : Int) : Option (Int × Int × Bool × (List (S53)) × Int × Int) := (spec_l01Below.f s0_0 s0_1 s0_2 60).bind fun bt292 => ((spec_l01PickInt.f s0_0 bt292.2.1 bt292.2.2 (([0, 0, 1, 2, 5] : List Int))).bind fun bt298 => ((spec_l01Once.f s0_0 bt298.2.1 bt298.2.2 4).bind fun bt301 => ((spec_l01PickInt.f s0_0 bt301.2.1 bt301.2.2 (([0, 0, 1, 3, 10] : List Int))).bind fun bt308 => ((spec_l01Below.f s0_0 bt308.2.1 bt308.2.2 7).bind fun bt311 => (spec_l02Belt.l0 k (wrap64 ((wrap64 (5 + bt292.1)) - bt308.1)) bt311.1 s0_0 bt311.2.1 bt311.2.2 (wrap64 (5 + bt292.1)) bt298.1 bt301.1 ([] : List (S53)))))))
theorem spec_l02Belt.mono_l : ∀ k, (∀ y0 y1 y2 y3 y4 y5 y6 y7 y8, LeO (spec_l02Belt.l0 k y0 y1 y2 y3 y4 y5 y6 y7 y8) (spec_l02Belt.l0 (k + 1) y0 y1 y2 y3 y4 y5 y6 y7 y8))
 | 0 => fun _ _ _ _ _ _ _ _ _ r h => by simp [spec_l02Belt.l0] at h
 | k + 1 => by
  have ih0 := spec_l02Belt.mono_l k
  ·intro y0 y1 y2 y3 y4 y5 y6 y7 y8
   unfold spec_l02Belt.l0
   repeat' first
   | (with_reducible exact ih0 _ _ _ _ _ _ _ _ _)
   | (with_reducible exact LeO.refl _)
   | (with_reducible exact LeO.none _)
   | (with_reducible refine LeO.ite ?_ ?_)
   | (with_reducible refine LeO.bind ?_ (fun _ => ?_))
   | exact ih0 _ _ _ _ _ _ _ _ _
   | exact LeO.none _
   | refine LeO.ite ?_ ?_
   | refine LeO.bind ?_ (fun _ => ?_)
theorem spec_l02Belt.mono : ∀ a0 a1 a2 k, LeO (spec_l02Belt.f k a0 a1 a2) (spec_l02Belt.f (k + 1) a0 a1 a2) := by
 intro a0 a1 a2 k
 have ih0 := spec_l02Belt.mono_l k
 unfold spec_l02Belt.f
 repeat' first
   | (with_reducible exact ih0 _ _ _ _ _ _ _ _ _)
   | (with_reducible exact LeO.refl _)
   | (with_reducible exact LeO.none _)
   | (with_reducible refine LeO.ite ?_ ?_)
   | (with_reducible refine LeO.bind ?_ (fun _ => ?_))
   | exact ih0 _ _ _ _ _ _ _ _ _
   | exact LeO.none _
   | refine LeO.ite ?_ ?_
   | refine LeO.bind ?_ (fun _ => ?_)
def spec_l02Belt.T8 : Bool × List (List Nat × List Nat) := (true, [([], []), ([0], [0]), ([], []), ([2], [2]), ([3], [3]), ([4], [4]), ([5], [5]), ([], []), ([7], [7]), ([6, 8], [6, 8]), ([], []), ([], []), ([9, 10, 11], [9, 10, 11]), ([12], [12]), ([1, 13, 8], [1, 13]), ([0, 1, 2, 3, 4, 5, 6, 7, 8, 9, 10, 11, 12, 13, 14], []), ([15, 14, 14, 0, 1, 2, 3, 4, 5, 6, 7, 8, 9, 10, 11, 12, 13, 14], [14, 15])])
def spec_l02Belt.B8 : List Nat := [0, 1, 0, 4, 12, 28, 60, 0, 128, 508, 0, 0, 4092, 8188, 16383, 32767, 65535]
theorem spec_l02Belt.tab8 : rtab .any (opsOf Try.f74 8) = spec_l02Belt.T8 := by kernel_rfl
theorem spec_l02Belt.bits8 : waitsOk spec_l02Belt.T8.2 spec_l02Belt.B8 = true := by kernel_rfl
def spec_l02Belt.T9 : Bool × List (List Nat × List Nat) := (true, [([], []), ([], []), ([0, 1], [0, 1]), ([], []), ([3], [3]), ([2, 4], [2, 4]), ([], []), ([], []), ([6, 7], [6, 7]), ([5, 8], [5, 8]), ([9, 8, 0, 1, 2, 3, 4, 5, 6, 7, 8, 9], [0, 9])])
def spec_l02Belt.B9 : List Nat := [0, 0, 3, 0, 8, 31, 0, 0, 192, 511, 1023]
theorem spec_l02Belt.tab9 : rtab .any (opsOf Try.f74 9) = spec_l02Belt.T9 := by kernel_rfl
theorem spec_l02Belt.bits9 : waitsOk spec_l02Belt.T9.2 spec_l02Belt.B9 = true := by kernel_rfl
set_option maxHeartbeats 8000000 in
set_option maxRecDepth 100000 in
theorem spec_l02Belt.calls (k : Nat) (g : Nat) (s0_0 : List Int) (s0_1 : Int) (s0_2 : Int) (r1 : Int) (r2 : Int) (r3 : Bool) (r4 : List (S53)) (r5 : Int) (r6 : Int) (w0 w : World) (hI : IsS85 w0 w g s0_0 s0_1 s0_2) (hB : Below w0.heap.size w0 w) (h : spec_l02Belt.f k s0_0 s0_1 s0_2 = some (r1, r2, r3, r4, r5, r6)) :
  Calls Try.prog 74 #[.pointer (some ⟨g, 0, none⟩)] w fun e w' => ∃ v3_ : Value, e = .returned (.agg #[.int .i64 r1, .int .i64 r2, .bool r3, v3_]) ∧ Kd.R k53 53 w' w.heap.size (fun _ => True) v3_ r4 ∧ IsS85 w0 w' g s0_0 r5 r6 ∧ Below w0.heap.size w0 w' ∧ KeepBut w w' g none := by
 have hu29 := Try.underlying29
 have hu53 := Try.underlying53
 have HI0 := uD hI
 have HK := uD (KeepBut.refl w g none)
 have HL := uD hB.size
 clear hI
 have HW0 := uD hB.size
 have HB := uD hB
 clear hB
 have H : ((spec_l01Below.f s0_0 s0_1 s0_2 60).bind fun bt292 => ((spec_l01PickInt.f s0_0 bt292.2.1 bt292.2.2 (([0, 0, 1, 2, 5] : List Int))).bind fun bt298 => ((spec_l01Once.f s0_0 bt298.2.1 bt298.2.2 4).bind fun bt301 => ((spec_l01PickInt.f s0_0 bt301.2.1 bt301.2.2 (([0, 0, 1, 3, 10] : List Int))).bind fun bt308 => ((spec_l01Below.f s0_0 bt308.2.1 bt308.2.2 7).bind fun bt311 => (spec_l02Belt.l0 k (wrap64 ((wrap64 (5 + bt292.1)) - bt308.1)) bt311.1 s0_0 bt311.2.1 bt311.2.2 (wrap64 (5 + bt292.1)) bt298.1 bt301.1 ([] : List (S53)))))))) = some (r1, r2, r3, r4, r5, r6) := h
 clear h
 replace H := Option.bind_eq_some_iff.mp H
 obtain ⟨⟨t292, t293, t294⟩, A20, H⟩ := H
 replace H : ((spec_l01PickInt.f s0_0 t293 t294 (([0, 0, 1, 2, 5] : List Int))).bind fun bt298 => ((spec_l01Once.f s0_0 bt298.2.1 bt298.2.2 4).bind fun bt301 => ((spec_l01PickInt.f s0_0 bt301.2.1 bt301.2.2 (([0, 0, 1, 3, 10] : List Int))).bind fun bt308 => ((spec_l01Below.f s0_0 bt308.2.1 bt308.2.2 7).bind fun bt311 => (spec_l02Belt.l0 k (wrap64 ((wrap64 (5 + t292)) - bt308.1)) bt311.1 s0_0 bt311.2.1 bt311.2.2 (wrap64 (5 + t292)) bt298.1 bt301.1 ([] : List (S53))))))) = some (r1, r2, r3, r4, r5, r6) := H
 have A2 := uD A20
 clear A20
 obtain ⟨y295, hy295⟩ : ∃ y_ : List Int, y_ = (([0, 0, 1, 2, 5] : List Int)) := ⟨_, rfl⟩
 replace H : ((spec_l01PickInt.f s0_0 t293 t294 y295).bind fun bt298 => ((spec_l01Once.f s0_0 bt298.2.1 bt298.2.2 4).bind fun bt301 => ((spec_l01PickInt.f s0_0 bt301.2.1 bt301.2.2 (([0, 0, 1, 3, 10] : List Int))).bind fun bt308 => ((spec_l01Below.f s0_0 bt308.2.1 bt308.2.2 7).bind fun bt311 => (spec_l02Belt.l0 k (wrap64 ((wrap64 (5 + t292)) - bt308.1)) bt311.1 s0_0 bt311.2.1 bt311.2.2 (wrap64 (5 + t292)) bt298.1 bt301.1 ([] : List (S53))))))) = some (r1, r2, r3, r4, r5, r6) := by first | (rw [hy295]; with_reducible exact H) | (have H2_ := (Option.bind_some _ _).symm.trans H; rw [hy295]; with_reducible exact H2_) | (have H2_ := (Option.bind_some _ _).symm.trans H; with_reducible exact H2_) | with_reducible exact H | (rw [hy295]; exact H) | exact H
 have Ny295 := uD hy295
 clear hy295
 replace H := Option.bind_eq_some_iff.mp H
 obtain ⟨⟨t298, t299, t300⟩, A30, H⟩ := H
 replace H : ((spec_l01Once.f s0_0 t299 t300 4).bind fun bt301 => ((spec_l01PickInt.f s0_0 bt301.2.1 bt301.2.2 (([0, 0, 1, 3, 10] : List Int))).bind fun bt308 => ((spec_l01Below.f s0_0 bt308.2.1 bt308.2.2 7).bind fun bt311 => (spec_l02Belt.l0 k (wrap64 ((wrap64 (5 + t292)) - bt308.1)) bt311.1 s0_0 bt311.2.1 bt311.2.2 (wrap64 (5 + t292)) t298 bt301.1 ([] : List (S53)))))) = some (r1, r2, r3, r4, r5, r6) := H
 have A3 := uD A30
 clear A30
 replace H := Option.bind_eq_some_iff.mp H
 obtain ⟨⟨t301, t302, t303⟩, A40, H⟩ := H
 replace H : ((spec_l01PickInt.f s0_0 t302 t303 (([0, 0, 1, 3, 10] : List Int))).bind fun bt308 => ((spec_l01Below.f s0_0 bt308.2.1 bt308.2.2 7).bind fun bt311 => (spec_l02Belt.l0 k (wrap64 ((wrap64 (5 + t292)) - bt308.1)) bt311.1 s0_0 bt311.2.1 bt311.2.2 (wrap64 (5 + t292)) t298 t301 ([] : List (S53))))) = some (r1, r2, r3, r4, r5, r6) := H
 have A4 := uD A40
 clear A40
 obtain ⟨y305, hy305⟩ : ∃ y_ : List Int, y_ = (([0, 0, 1, 3, 10] : List Int)) := ⟨_, rfl⟩
 replace H : ((spec_l01PickInt.f s0_0 t302 t303 y305).bind fun bt308 => ((spec_l01Below.f s0_0 bt308.2.1 bt308.2.2 7).bind fun bt311 => (spec_l02Belt.l0 k (wrap64 ((wrap64 (5 + t292)) - bt308.1)) bt311.1 s0_0 bt311.2.1 bt311.2.2 (wrap64 (5 + t292)) t298 t301 ([] : List (S53))))) = some (r1, r2, r3, r4, r5, r6) := by first | (rw [hy305]; with_reducible exact H) | (have H2_ := (Option.bind_some _ _).symm.trans H; rw [hy305]; with_reducible exact H2_) | (have H2_ := (Option.bind_some _ _).symm.trans H; with_reducible exact H2_) | with_reducible exact H | (rw [hy305]; exact H) | exact H
 have Ny305 := uD hy305
 clear hy305
 replace H := Option.bind_eq_some_iff.mp H
 obtain ⟨⟨t308, t309, t310⟩, A50, H⟩ := H
 replace H : ((spec_l01Below.f s0_0 t309 t310 7).bind fun bt311 => (spec_l02Belt.l0 k (wrap64 ((wrap64 (5 + t292)) - t308)) bt311.1 s0_0 bt311.2.1 bt311.2.2 (wrap64 (5 + t292)) t298 t301 ([] : List (S53)))) = some (r1, r2, r3, r4, r5, r6) := H
 have A5 := uD A50
 clear A50
 replace H := Option.bind_eq_some_iff.mp H
 obtain ⟨⟨t311, t312, t313⟩, A60, H⟩ := H
 replace H : (spec_l02Belt.l0 k (wrap64 ((wrap64 (5 + t292)) - t308)) t311 s0_0 t312 t313 (wrap64 (5 + t292)) t298 t301 ([] : List (S53))) = some (r1, r2, r3, r4, r5, r6) := H
 have A6 := uD A60
 clear A60
 have H' := uD H
 clear H
 go_enter Try.func74, Try.ntmps74
 try go_wp2_with (first | ((with_reducible refine gate_dst (N := 2) rfl ?_); refine bx 2 #[.int .i64 0, .int .i64 0, .bool false, .slice none 0 0] 29 ?_; intro gb291 hg w7 hbox hb; replace HB := uD (uO (pB HB (IsS85.ge HI0.out)) hb); have BK291 := uD (hbox); have GW291 := uD ((by rw [hg]; exact (keep_size (w := w) (g := g) (row := none) (ph HK)) : w.heap.size ≤ gb291)); have GE291 := uD ((Nat.le_trans HW0.out (by rw [hg]; exact (keep_size (w := w) (g := g) (row := none) (ph HK)) : w.heap.size ≤ gb291) : w0.heap.size ≤ gb291)); replace HK := uD (KeepBut.trans (ph HK) (KeepBut.of_below hb g none) (.inl rfl)); have NB0_291 := uD ((by rw [hg]; exact Nat.ne_of_lt (IsS85.lt (show IsS85 w0 _ g s0_0 s0_1 s0_2 from IsS85.p HI0)) : g ≠ gb291)); have NB291_0 := uD ((by rw [hg]; exact Nat.ne_of_gt (IsS85.lt (show IsS85 w0 _ g s0_0 s0_1 s0_2 from IsS85.p HI0)) : gb291 ≠ g)); replace HI0 := uD (IsS85.below (IsS85.p HI0) hb); clear hb hbox hg) | ((with_reducible refine gate_callee (f := 75) rfl ?_); refine gl (some 8) Try.func75 #[.pointer (some ⟨g, 0, none⟩), .int .i64 60] ?_; (with_reducible refine (spec_l01Below.calls g s0_0 s0_1 s0_2 60 t292 t293 t294 w0 _ ?side1 ?side2 A2.out).mono ?_); (case side1 => exact IsS85.p HI0); (case side2 => exact pB HB (IsS85.ge HI0.out)); rintro e w8 ⟨rfl, hi, hb, hk⟩; refine ⟨_, rfl, ?_⟩; replace BK291 := uD (KeepBut.blk hk (pk BK291) NB291_0.out (by simp)); replace HK := uD (KeepBut.trans (ph HK) hk (.inl rfl)); replace HB := uD (hb); replace HI0 := uD (hi); (try clear hb); (try clear hb2); (try clear hk); (try clear hi)) | ((with_reducible refine gate_dst (N := 11) rfl ?_); refine Kd.R_lit (Kd.int .i64) _ 3 ?hg (N := 11) ?hd (xs := ([0, 0, 1, 2, 5] : List Int)) (inner := [.int .i64 0, .int .i64 0, .int .i64 1, .int .i64 2, .int .i64 5]) (ok := fun _ => True) (okp := fun _ => True) ?hr ?hp (fun _ hk => hk) trivial (Below.refl _ _) (Nat.le_refl _) (by simp) ?_; (case hd => rfl); (case hg => rfl); (case hr => first | (go_simp; done) | (go_simp; rfl)); (case hp => exact (Reps.one (show Kd.M (Kd.int .i64) _ _ _ 0 [.int .i64 0] from rfl) (Reps.one (show Kd.M (Kd.int .i64) _ _ _ 0 [.int .i64 0] from rfl) (Reps.one (show Kd.M (Kd.int .i64) _ _ _ 1 [.int .i64 1] from rfl) (Reps.one (show Kd.M (Kd.int .i64) _ _ _ 2 [.int .i64 2] from rfl) (Reps.one (show Kd.M (Kd.int .i64) _ _ _ 5 [.int .i64 5] from rfl) (Reps.none _ _))))))); intro v296 w9 ho10 hb hg_ hnew_; clear hg_ hnew_; (first | rw [← Ny295.out] at ho10 | (simp only [Int.reduceToNat] at ho10; rw [← Ny295.out] at ho10)); have HO297 := uD (Kd.R_lower ho10 (keep_size (w := w) (g := g) (row := none) (ph HK))); replace BK291 := uD (blk_below (pk BK291) hb); replace HK := uD (KeepBut.trans (ph HK) (KeepBut.of_below hb g none) (.inl rfl)); replace HB := uD (uO (pB HB (IsS85.ge HI0.out)) hb); replace HI0 := uD (IsS85.below (IsS85.p HI0) hb); clear hb ho10; obtain ⟨Ao11, co11, eo11⟩ := Kd.R_slice HO297.out; subst eo11) | ((with_reducible refine gate_callee (f := 67) rfl ?_); refine gl (some 12) Try.func67 #[.pointer (some ⟨g, 0, none⟩), .slice Ao11 y295.length co11] ?_; (with_reducible refine (spec_l01PickInt.calls g s0_0 t293 t294 _ _ y295 t298 t299 t300 w0 _ ?side1 ?side2 ?side3 ?side4 ?side5 A3.out).mono ?_); (case side1 => exact IsS85.p HI0); (case side2 => exact pB HB (IsS85.ge HI0.out)); (case side3 => exact pc ((Kd.R_reads' HO297.out).2.2)); (case side4 => exact (Kd.R_reads' HO297.out).2.1); (case side5 => exact far_slice (IsS85.own_ne HI0.out HO297.out (by decide))); rintro e w12 ⟨rfl, hi, hb, hk⟩; refine ⟨_, rfl, ?_⟩; replace BK291 := uD (KeepBut.blk hk (pk BK291) NB291_0.out (by simp)); replace HO297 := uD (uX (Kd.R_keep (IsS85.apart (show IsS85 w0 _ g s0_0 t293 t294 from IsS85.p HI0) (pr HO297) (by decide)) hk (fun _ h => h.2)) (fun _ h => h.1)); replace HK := uD (KeepBut.trans (ph HK) hk (.inl rfl)); replace HB := uD (hb); replace HI0 := uD (hi); (try clear hb); (try clear hb2); (try clear hk); (try clear hi)) | ((with_reducible refine gate_callee (f := 77) rfl ?_); refine gl (some 14) Try.func77 #[.pointer (some ⟨g, 0, none⟩), .int .i64 4] ?_; (with_reducible refine (spec_l01Once.calls g s0_0 t299 t300 4 t301 t302 t303 w0 _ ?side1 ?side2 A4.out).mono ?_); (case side1 => exact IsS85.p HI0); (case side2 => exact pB HB (IsS85.ge HI0.out)); rintro e w13 ⟨rfl, hi, hb, hk⟩; refine ⟨_, rfl, ?_⟩; replace BK291 := uD (KeepBut.blk hk (pk BK291) NB291_0.out (by simp)); replace HO297 := uD (uX (Kd.R_keep (IsS85.apart (show IsS85 w0 _ g s0_0 t299 t300 from IsS85.p HI0) (pr HO297) (by decide)) hk (fun _ h => h.2)) (fun _ h => h.1)); replace HK := uD (KeepBut.trans (ph HK) hk (.inl rfl)); replace HB := uD (hb); replace HI0 := uD (hi); (try clear hb); (try clear hb2); (try clear hk); (try clear hi)) | ((with_reducible refine gate_dst (N := 3) rfl ?_); refine bx 3 #[.int .i64 0, .int .i64 0, .bool false, .slice none 0 0] 29 ?_; intro gb304 hg w14 hbox hb; replace HO297 := uD (Kd.R_below (pr HO297) hb); replace HB := uD (uO (pB HB (IsS85.ge HI0.out)) hb); have BK304 := uD (hbox); have GW304 := uD ((by rw [hg]; exact (keep_size (w := w) (g := g) (row := none) (ph HK)) : w.heap.size ≤ gb304)); have GE304 := uD ((Nat.le_trans HW0.out (by rw [hg]; exact (keep_size (w := w) (g := g) (row := none) (ph HK)) : w.heap.size ≤ gb304) : w0.heap.size ≤ gb304)); replace HK := uD (KeepBut.trans (ph HK) (KeepBut.of_below hb g none) (.inl rfl)); have NB291_304 := uD ((by rw [hg]; exact Nat.ne_of_lt (blk_lt (pk BK291)) : gb291 ≠ gb304)); have NB304_291 := uD ((by rw [hg]; exact Nat.ne_of_gt (blk_lt (pk BK291)) : gb304 ≠ gb291)); replace BK291 := uD (blk_below (pk BK291) hb); have NB0_304 := uD ((by rw [hg]; exact Nat.ne_of_lt (IsS85.lt (show IsS85 w0 _ g s0_0 t302 t303 from IsS85.p HI0)) : g ≠ gb304)); have NB304_0 := uD ((by rw [hg]; exact Nat.ne_of_gt (IsS85.lt (show IsS85 w0 _ g s0_0 t302 t303 from IsS85.p HI0)) : gb304 ≠ g)); replace HI0 := uD (IsS85.below (IsS85.p HI0) hb); clear hb hbox hg; have hnb15 := NB304_291.out; have hnc15 := NB291_304.out; have hnb16 := NB304_0.out; have hnc16 := NB0_304.out; obtain ⟨hcz17_0, hcz17_1, hcz17_2, hcz17_3, hfz17_0, hfz17_1, hfz17_2, hfz17_3⟩ := cz4 BK304))
 have n0_ : Aside0 (Kd.R (Kd.int .i64) 3 ((((w14.setCell ⟨gb304, 0, none⟩ (.int .i64 (wrap64 (5 + t292)))).setCell ⟨gb304, 1, none⟩ (.int .i64 t298)).setCell ⟨gb304, 2, none⟩ (.bool t301)).setCell ⟨gb304, 3, none⟩ (.slice none 0 0)) w.heap.size (fun _ => True) (.slice Ao11 y295.length co11) y295) := ⟨by (with_reducible repeat (first | apply uU | apply uS | apply uT)); exact uX (uV (p := ⟨gb304, 3, none⟩) (uV (p := ⟨gb304, 2, none⟩) (uV (p := ⟨gb304, 1, none⟩) (uV (p := ⟨gb304, 0, none⟩) (uW HO297.out BK304.out (by decide)) (fun _ hk => hk.2) (.int .i64 (wrap64 (5 + t292)))) (fun _ hk => hk.2) (.int .i64 t298)) (fun _ hk => hk.2) (.bool t301)) (fun _ hk => hk.2) (.slice none 0 0)) (fun _ hk => trivial)⟩
 have n1_ : Aside0 (((((w14.setCell ⟨gb304, 0, none⟩ (.int .i64 (wrap64 (5 + t292)))).setCell ⟨gb304, 1, none⟩ (.int .i64 t298)).setCell ⟨gb304, 2, none⟩ (.bool t301)).setCell ⟨gb304, 3, none⟩ (.slice none 0 0)).heap[gb291]? = some (.cells #[.int .i64 0, .int .i64 0, .bool false, .slice none 0 0] 29 (0, 0))) := ⟨by exact ps BK291⟩
 have n2_ : Aside0 (((((w14.setCell ⟨gb304, 0, none⟩ (.int .i64 (wrap64 (5 + t292)))).setCell ⟨gb304, 1, none⟩ (.int .i64 t298)).setCell ⟨gb304, 2, none⟩ (.bool t301)).setCell ⟨gb304, 3, none⟩ (.slice none 0 0)).heap[gb304]? = some (.cells #[.int .i64 (wrap64 (5 + t292)), .int .i64 t298, .bool t301, .slice none 0 0] 29 (0, 0))) := ⟨by (with_reducible repeat first|apply uH|apply uJ|apply uG); refine uP (cs := #[.int .i64 (wrap64 (5 + t292)), .int .i64 t298, .bool t301, .slice none 0 0]) ?_ 3 _ rfl; (with_reducible repeat first|apply uH|apply uJ|apply uG); refine uP (cs := #[.int .i64 (wrap64 (5 + t292)), .int .i64 t298, .bool false, .slice none 0 0]) ?_ 2 _ rfl; (with_reducible repeat first|apply uH|apply uJ|apply uG); refine uP (cs := #[.int .i64 (wrap64 (5 + t292)), .int .i64 0, .bool false, .slice none 0 0]) ?_ 1 _ rfl; (with_reducible repeat first|apply uH|apply uJ|apply uG); refine uP (cs := #[.int .i64 0, .int .i64 0, .bool false, .slice none 0 0]) ?_ 0 _ rfl; (with_reducible repeat first|apply uH|apply uJ|apply uG); exact BK304.out⟩
 have n3_ : Aside0 (IsS85 w0 ((((w14.setCell ⟨gb304, 0, none⟩ (.int .i64 (wrap64 (5 + t292)))).setCell ⟨gb304, 1, none⟩ (.int .i64 t298)).setCell ⟨gb304, 2, none⟩ (.bool t301)).setCell ⟨gb304, 3, none⟩ (.slice none 0 0)) g s0_0 t302 t303) := ⟨IsS85.p HI0⟩
 have n4_ : Aside0 (KeepBut w ((((w14.setCell ⟨gb304, 0, none⟩ (.int .i64 (wrap64 (5 + t292)))).setCell ⟨gb304, 1, none⟩ (.int .i64 t298)).setCell ⟨gb304, 2, none⟩ (.bool t301)).setCell ⟨gb304, 3, none⟩ (.slice none 0 0)) g none) := ⟨ph HK⟩
 have n5_ : Aside0 (Below w0.heap.size w0 ((((w14.setCell ⟨gb304, 0, none⟩ (.int .i64 (wrap64 (5 + t292)))).setCell ⟨gb304, 1, none⟩ (.int .i64 t298)).setCell ⟨gb304, 2, none⟩ (.bool t301)).setCell ⟨gb304, 3, none⟩ (.slice none 0 0))) := ⟨pB HB (IsS85.ge HI0.out)⟩
 (try clear HO297)
 (try clear BK291)
 (try clear BK304)
 (try clear HI0)
 (try clear HK)
 (try clear HB)
 generalize ((((w14.setCell ⟨gb304, 0, none⟩ (.int .i64 (wrap64 (5 + t292)))).setCell ⟨gb304, 1, none⟩ (.int .i64 t298)).setCell ⟨gb304, 2, none⟩ (.bool t301)).setCell ⟨gb304, 3, none⟩ (.slice none 0 0)) = w18 at n0_ n1_ n2_ n3_ n4_ n5_ ⊢
 have HO297 := n0_
 have BK291 := n1_
 have BK304 := n2_
 have HI0 := n3_
 have HK := n4_
 have HB := n5_
 clear n0_ n1_ n2_ n3_ n4_ n5_
 replace HO297 := uD (uT HO297.out)
 replace BK291 := uD (uJ BK291.out)
 replace BK304 := uD (uJ BK304.out)
 replace HI0 := uD (IsS85.drew HI0.out)
 replace HK := uD (keep_drew HK.out)
 replace HB := uD (uK HB.out)
 refine start_ (n := 7) (S := fun w' => w'.cell? ⟨gb304, 0, none⟩ = some (.int .i64 (wrap64 (5 + t292))) ∧ w'.cell? ⟨gb304, 1, none⟩ = some (.int .i64 t298) ∧ w'.cell? ⟨gb304, 2, none⟩ = some (.bool t301) ∧ w'.cell? ⟨gb304, 3, none⟩ = some (.slice none 0 0)) (ds := []) #[F,F,F,F,F,F,F] (by kernel_rfl) rfl rfl ⟨(uF BK304.out 0).trans rfl, (uF BK304.out 1).trans rfl, (uF BK304.out 2).trans rfl, (uF BK304.out 3).trans rfl⟩ (fun hHeld => ?_)
 generalize w18.drew = w19 at HO297 BK291 BK304 HI0 HK HB HO297 hHeld ⊢
 refine ub (i := 0) (N := some 16) (v := ?_) (a' := ?_) #[T,F,F,F,F,F,F] rfl rfl (by kernel_rfl) (fun _ _ _ h => h) (Or.inl ⟨by rfl, ?_⟩) ?_ ?_
 rotate_left;(intro w';go_simp;with_reducible rfl);rotate_left;(simp only [uc,uA,uB,uC,uZ,ua];rfl)
 refine ub (i := 2) (N := some 18) (v := ?_) (a' := ?_) #[T,F,T,F,F,F,F] rfl rfl (by kernel_rfl) (fun _ _ _ h => h) (Or.inl ⟨by rfl, ?_⟩) ?_ ?_
 rotate_left;(intro w';go_simp;with_reducible rfl);rotate_left;(simp only [uc,uA,uB,uC,uZ,ua];rfl)
 refine take_ (i := 1) (N := some 17) (v := ?_) (a' := ?_) #[T,T,T,F,F,F,F] rfl rfl (by kernel_rfl) (fun _ _ _ h => h) (Or.inl ⟨by rfl, ?_⟩) hHeld ?_ ?_
 rotate_left;(rintro w' ⟨s0, s1, s2, s3⟩;go_simp;with_reducible rfl);rotate_left;(simp only [uc,uA,uB,uC,uZ,ua];rfl)
 refine one_ (i := 3) (N := some 19) #[T,T,T,T,F,F,F] rfl rfl (by kernel_rfl) (by decide) (fun K hK => ?_)
 refine Kd.R_lit_step (Kd.int .i64) _ 3 ?hg (N := 19) ?hd (xs := ([0, 0, 1, 3, 10] : List Int)) (inner := [.int .i64 0, .int .i64 0, .int .i64 1, .int .i64 3, .int .i64 10]) (ok := fun _ => True) (okp := fun _ => True) ?hr ?hp (fun _ hk => hk) trivial (Below.refl _ _) (Nat.le_refl _) (by simp) ?_; (case hd => rfl); (case hg => rfl); (case hr => first | (go_simp; done) | (go_simp; rfl)); (case hp => exact (Reps.one (show Kd.M (Kd.int .i64) _ _ _ 0 [.int .i64 0] from rfl) (Reps.one (show Kd.M (Kd.int .i64) _ _ _ 0 [.int .i64 0] from rfl) (Reps.one (show Kd.M (Kd.int .i64) _ _ _ 1 [.int .i64 1] from rfl) (Reps.one (show Kd.M (Kd.int .i64) _ _ _ 3 [.int .i64 3] from rfl) (Reps.one (show Kd.M (Kd.int .i64) _ _ _ 10 [.int .i64 10] from rfl) (Reps.none _ _)))))))
 intro v306 w20 ho21 hb hg_ hnew_
 clear hg_ hnew_
 (first | rw [← Ny305.out] at ho21 | (simp only [Int.reduceToNat] at ho21; rw [← Ny305.out] at ho21))
 have HO307 := uD (Kd.R_lower (Kd.R_new' ho21 (Kd.R_lt (pr HO297))) (keep_size (w := w) (g := g) (row := none) (ph HK)))
 replace HO297 := uD (Kd.R_elder' (pr HO297) (Kd.R_base ho21) hb)
 replace BK291 := uD (blk_below (pk BK291) hb)
 replace BK304 := uD (blk_below (pk BK304) hb)
 replace HK := uD (KeepBut.trans (ph HK) (KeepBut.of_below hb g none) (.inl rfl))
 replace HB := uD (uO (pB HB (IsS85.ge HI0.out)) hb)
 replace HI0 := uD (IsS85.below (IsS85.p HI0) hb)
 clear hb ho21
 obtain ⟨Ao22, co22, eo22⟩ := Kd.R_slice HO307.out
 (first | subst eo22 | (injection eo22 with f1_ f2_ f3_; have f4_ := f1_.symm; have f5_ := f3_.symm; clear f1_ f2_ f3_; subst f4_; subst f5_))
 refine hK.out _ _ ⟨(uF BK304.out 0).trans rfl, (uF BK304.out 1).trans rfl, (uF BK304.out 2).trans rfl, (uF BK304.out 3).trans rfl⟩ (fun hHeld => ?_)
 clear hK K
 refine norm_ (a' := ?_) ?_ ?_
 rotate_left
 ·show uc _ (some 19) _ = _
  simp only [uc, uA, uB, uC, uZ, ua]
  rfl
 refine one_ (i := 4) (N := some 20) #[T,T,T,T,T,F,F] rfl rfl (by kernel_rfl) (by decide) (fun K hK => ?_)
 refine goes_ Try.func67 (by kernel_rfl) rfl #[.pointer (some ⟨g, 0, none⟩), .slice Ao22 y305.length co22] (by rfl) rfl rfl (by (try simp only [List.map_toArray, List.map_cons, List.map_nil]); first | done | rfl | (simp only [List.length_drop, List.length_take]; rfl)) ?_
 with_reducible refine (spec_l01PickInt.calls g s0_0 t302 t303 _ _ y305 t308 t309 t310 w0 _ ?side1 ?side2 ?side3 ?side4 ?side5 A5.out).mono ?_
 (case side1 => exact IsS85.p HI0)
 (case side2 => exact pB HB (IsS85.ge HI0.out))
 (case side3 => exact pc ((Kd.R_reads' HO307.out).2.2))
 (case side4 => exact (Kd.R_reads' HO307.out).2.1)
 (case side5 => exact far_slice (IsS85.own_ne HI0.out HO307.out (by decide)))
 rintro e w23 ⟨rfl, hi, hb, hk⟩
 refine ⟨_, rfl, ?_⟩
 replace BK291 := uD (KeepBut.blk hk (pk BK291) NB291_0.out (by simp))
 replace HO297 := uD (uX (Kd.R_keep (IsS85.apart (show IsS85 w0 _ g s0_0 t302 t303 from IsS85.p HI0) (pr HO297) (by decide)) hk (fun _ h => h.2)) (fun _ h => h.1))
 replace BK304 := uD (KeepBut.blk hk (pk BK304) NB304_0.out (by simp))
 replace HO307 := uD (uX (Kd.R_keep (IsS85.apart (show IsS85 w0 _ g s0_0 t302 t303 from IsS85.p HI0) (pr HO307) (by decide)) hk (fun _ h => h.2)) (fun _ h => h.1))
 replace HK := uD (KeepBut.trans (ph HK) hk (.inl rfl))
 replace HB := uD (hb)
 replace HI0 := uD (hi)
 (try clear hb)
 (try clear hb2)
 (try clear hk)
 (try clear hi)
 refine hK.out _ _ ⟨(uF BK304.out 0).trans rfl, (uF BK304.out 1).trans rfl, (uF BK304.out 2).trans rfl, (uF BK304.out 3).trans rfl⟩ (fun hHeld => ?_)
 clear hK K
 refine norm_ (a' := ?_) ?_ ?_
 rotate_left
 ·show uc _ (some 20) _ = _
  simp only [uc, uA, uB, uC, uZ, ua]
  rfl
 refine ub (i := 5) (N := some 21) (v := ?_) (a' := ?_) #[T,T,T,T,T,T,F] rfl rfl (by kernel_rfl) (fun _ _ _ h => h) (Or.inl ⟨by rfl, ?_⟩) ?_ ?_
 rotate_left;(intro w';go_simp;with_reducible rfl);rotate_left;(simp only [uc,uA,uB,uC,uZ,ua];rfl)
 refine ub (i := 6) (N := some 4) (v := ?_) (a' := ?_) #[T,T,T,T,T,T,T] rfl rfl (by kernel_rfl) (fun _ _ _ h => h) (Or.inl ⟨by rfl, ?_⟩) ?_ ?_
 rotate_left;(intro w';go_simp;with_reducible rfl);rotate_left;(simp only [uc,uA,uB,uC,uZ,ua];rfl)
 refine done_ (by kernel_rfl) ?_
 try go_wp2_with (first | ((with_reducible refine gate_callee (f := 75) rfl ?_); refine gl (some 23) Try.func75 #[.pointer (some ⟨g, 0, none⟩), .int .i64 7] ?_; (with_reducible refine (spec_l01Below.calls g s0_0 t309 t310 7 t311 t312 t313 w0 _ ?side1 ?side2 A6.out).mono ?_); (case side1 => exact IsS85.p HI0); (case side2 => exact pB HB (IsS85.ge HI0.out)); rintro e w24 ⟨rfl, hi, hb, hk⟩; refine ⟨_, rfl, ?_⟩; replace BK291 := uD (KeepBut.blk hk (pk BK291) NB291_0.out (by simp)); replace HO297 := uD (uX (Kd.R_keep (IsS85.apart (show IsS85 w0 _ g s0_0 t309 t310 from IsS85.p HI0) (pr HO297) (by decide)) hk (fun _ h => h.2)) (fun _ h => h.1)); replace BK304 := uD (KeepBut.blk hk (pk BK304) NB304_0.out (by simp)); replace HO307 := uD (uX (Kd.R_keep (IsS85.apart (show IsS85 w0 _ g s0_0 t309 t310 from IsS85.p HI0) (pr HO307) (by decide)) hk (fun _ h => h.2)) (fun _ h => h.1)); replace HK := uD (KeepBut.trans (ph HK) hk (.inl rfl)); replace HB := uD (hb); replace HI0 := uD (hi); (try clear hb); (try clear hb2); (try clear hk); (try clear hi)))
 go_loopg [4, 5] k (fun kq v4 v5 w' => ∃ (x4_1 : Int) (x5_1 : Int) (x1001_1 : Int) (x1002_1 : Int) (x305003_1 : List (S53)) (u305003 : Value), v4 = .int .i64 x4_1 ∧ v5 = .int .i64 x5_1 ∧ Aside0 (spec_l02Belt.l0 kq x4_1 x5_1 s0_0 x1001_1 x1002_1 (wrap64 (5 + t292)) t298 t301 x305003_1 = some (r1, r2, r3, r4, r5, r6)) ∧ Aside0 (kq ≤ k) ∧ Aside0 (Kd.R k53 53 w' w.heap.size (fun _ => True) u305003 x305003_1) ∧ Aside0 (w'.heap[gb291]? = some (.cells #[.int .i64 0, .int .i64 0, .bool false, (.slice none 0 0)] 29 (0, 0))) ∧ Aside0 (w'.heap[gb304]? = some (.cells #[.int .i64 (wrap64 (5 + t292)), .int .i64 t298, .bool t301, u305003] 29 (0, 0))) ∧ Aside0 (IsS85 w0 w' g s0_0 x1001_1 x1002_1) ∧ Aside0 (KeepBut w w' g none) ∧ Aside0 (Below w0.heap.size w0 w'))
 case atStart => exact ⟨(wrap64 ((wrap64 (5 + t292)) - t308)), (t311), (t312), (t313), (([] : List (S53))), (.slice none 0 0), (by first | rfl | (simp; done) | (simp [*]; done)), (by first | rfl | (simp; done) | (simp [*]; done)), H', ⟨Nat.le_refl _⟩, ⟨by first | exact Kd.R_nil _ _ _ _ _ | exact Kd.N_nil _ _ _ _ _ | exact Kd.V_nil _ _ _ _ _ | exact Kd.Q_nil _ _ _ _ _ | exact Kd.S_nil _ _ _ _ _⟩, ⟨by (with_reducible repeat first|apply uH|apply uJ|apply uG); exact BK291.out⟩, ⟨by (with_reducible repeat first|apply uH|apply uJ|apply uG); exact BK304.out⟩, ⟨IsS85.p HI0⟩, ⟨ph HK⟩, ⟨pB HB (IsS85.ge HI0.out)⟩⟩
 case round =>
  clear H'
  try clear c1
  try clear p2
  try clear c6
  try clear p6
  try clear c7
  try clear c15
  try clear c16
  try clear hcz17_0
  try clear hcz17_1
  try clear hcz17_2
  try clear hcz17_3
  try clear hfz17_0
  try clear hfz17_1
  try clear hfz17_2
  try clear hfz17_3
  obtain ⟨x4_1, x5_1, x1001_1, x1002_1, x305003_1, u305003, rfl, rfl, HA, HK1, HO_305003, BK291, BK304, HI0, HK, HB⟩ := hrel
  cases gk with
  | zero => exact absurd HA.out (by simp [spec_l02Belt.l0])
  | succ k1 =>
   have H := HA.out
   clear HA
   simp only [spec_l02Belt.l0] at H
   by_cases c25 : x5_1 > 0
   ·rw [if_pos c25] at H
    have c25b0 : decide (0 < x5_1) = true := decide_eq_true c25
    clear c25
    replace H := Option.bind_eq_some_iff.mp H
    obtain ⟨⟨t314, t315, t316⟩, A260, H⟩ := H
    replace H : (if x4_1 < (wrap64 (1 + t314)) then (some ((wrap64 (5 + t292)), t298, t301, x305003_1, t315, t316)) else ((spec_l01Below.f s0_0 t315 t316 9).bind fun bt317 => (if x305003_1.length < 5864062014805 then ((spec_l01PickInt.f s0_0 bt317.2.1 bt317.2.2 (([0, 0, 1, 2, 6] : List Int))).bind fun bt326 => (spec_l02Belt.l0 k1 (wrap64 ((wrap64 ((wrap64 (x4_1 - (wrap64 (1 + t314)))) - t298)) - bt326.1)) (wrap64 (x5_1 - 1)) s0_0 bt326.2.1 bt326.2.2 (wrap64 (5 + t292)) t298 t301 (x305003_1 ++ [(⟨wrap64 ((wrap64 ((wrap64 (10 * (x305003_1.length : Int))) + 1)) + bt317.1), x4_1, wrap64 (1 + t314)⟩ : S53)]))) else (none)))) = some (r1, r2, r3, r4, r5, r6) := H
    have A26 := uD A260
    clear A260
    by_cases c27 : x4_1 < (wrap64 (1 + t314))
    ·rw [if_pos c27] at H
     have c27b0 : decide (x4_1 < (wrap64 (1 + t314))) = true := decide_eq_true c27
     clear c27
     simp only [Option.some.injEq, Prod.mk.injEq] at H
     obtain ⟨rfl, rfl, rfl, rfl, rfl, rfl⟩ := H
     go_wp2_with (first | ((with_reducible refine gate_callee (f := 75) rfl ?_); refine gl (some 29) Try.func75 #[.pointer (some ⟨g, 0, none⟩), .int .i64 9] ?_; (with_reducible refine (spec_l01Below.calls g s0_0 x1001_1 x1002_1 9 t314 t315 t316 w0 _ ?side1 ?side2 A26.out).mono ?_); (case side1 => exact IsS85.p HI0); (case side2 => exact pB HB (IsS85.ge HI0.out)); rintro e w28 ⟨rfl, hi, hb, hk⟩; refine ⟨_, rfl, ?_⟩; replace HO_305003 := uD (uX (Kd.R_keep (IsS85.apart (show IsS85 w0 _ g s0_0 x1001_1 x1002_1 from IsS85.p HI0) (pr HO_305003) (by decide)) hk (fun _ h => h.2)) (fun _ h => h.1)); replace BK291 := uD (KeepBut.blk hk (pk BK291) NB291_0.out (by simp)); replace BK304 := uD (KeepBut.blk hk (pk BK304) NB304_0.out (by simp)); replace HK := uD (KeepBut.trans (ph HK) hk (.inl rfl)); replace HB := uD (hb); replace HI0 := uD (hi); (try clear hb); (try clear hb2); (try clear hk); (try clear hi); have hnb29 := NB304_291.out; have hnc29 := NB291_304.out; have hnb30 := NB304_0.out; have hnc30 := NB0_304.out; obtain ⟨hcz31_0, hcz31_1, hcz31_2, hcz31_3, hfz31_0, hfz31_1, hfz31_2, hfz31_3⟩ := cz4 BK304; have hnb32 := NB291_0.out; have hnc32 := NB0_291.out; obtain ⟨hcz33_0, hcz33_1, hcz33_2, hcz33_3, hfz33_0, hfz33_1, hfz33_2, hfz33_3⟩ := cz4 BK291; obtain ⟨Ao34, co34, eo34⟩ := Kd.R_slice HO_305003.out; subst eo34))
     refine bodyPost_ret (results_cell_row rfl _ _ gb291 29 #[.int .i64 (wrap64 (5 + t292)), .int .i64 t298, .bool t301, .slice Ao34 x305003_1.length co34] (0, 0) _ rfl (by (with_reducible repeat first|apply uH|apply uJ|apply uG); refine uP (cs := #[.int .i64 (wrap64 (5 + t292)), .int .i64 t298, .bool t301, .slice none 0 0]) ?_ 3 _ rfl; (with_reducible repeat first|apply uH|apply uJ|apply uG); refine uP (cs := #[.int .i64 (wrap64 (5 + t292)), .int .i64 t298, .bool false, .slice none 0 0]) ?_ 2 _ rfl; (with_reducible repeat first|apply uH|apply uJ|apply uG); refine uP (cs := #[.int .i64 (wrap64 (5 + t292)), .int .i64 0, .bool false, .slice none 0 0]) ?_ 1 _ rfl; (with_reducible repeat first|apply uH|apply uJ|apply uG); refine uP (cs := #[.int .i64 0, .int .i64 0, .bool false, .slice none 0 0]) ?_ 0 _ rfl; (with_reducible repeat first|apply uH|apply uJ|apply uG); exact BK291.out) Try.underlying29 rfl (by kernel_rfl)) rfl ?_
     exact ⟨_, by first | rfl | (simp [errW_none, errW_some] <;> rfl) | (simp [*, errW_none, errW_some] <;> rfl), by (with_reducible repeat (first | apply uU | apply uS | apply uT)); exact uX (uV (p := ⟨gb291, 3, none⟩) (uV (p := ⟨gb291, 2, none⟩) (uV (p := ⟨gb291, 1, none⟩) (uV (p := ⟨gb291, 0, none⟩) (uW HO_305003.out BK291.out (by decide)) (fun _ hk => hk.2) (.int .i64 (wrap64 (5 + t292)))) (fun _ hk => hk.2) (.int .i64 t298)) (fun _ hk => hk.2) (.bool t301)) (fun _ hk => hk.2) (.slice Ao34 x305003_1.length co34)) (fun _ hk => trivial), IsS85.p HI0, pB HB (IsS85.ge HI0.out), ph HK⟩
    ·rw [if_neg c27] at H
     have c27b0 : decide (x4_1 < (wrap64 (1 + t314))) = false := decide_eq_false c27
     clear c27
     replace H := Option.bind_eq_some_iff.mp H
     obtain ⟨⟨t317, t318, t319⟩, A350, H⟩ := H
     replace H : (if x305003_1.length < 5864062014805 then ((spec_l01PickInt.f s0_0 t318 t319 (([0, 0, 1, 2, 6] : List Int))).bind fun bt326 => (spec_l02Belt.l0 k1 (wrap64 ((wrap64 ((wrap64 (x4_1 - (wrap64 (1 + t314)))) - t298)) - bt326.1)) (wrap64 (x5_1 - 1)) s0_0 bt326.2.1 bt326.2.2 (wrap64 (5 + t292)) t298 t301 (x305003_1 ++ [(⟨wrap64 ((wrap64 ((wrap64 (10 * (x305003_1.length : Int))) + 1)) + t317), x4_1, wrap64 (1 + t314)⟩ : S53)]))) else (none)) = some (r1, r2, r3, r4, r5, r6) := H
     have A35 := uD A350
     clear A350
     by_cases c36 : x305003_1.length < 5864062014805
     ·rw [if_pos c36] at H
      have LMc36 := uD c36
      clear c36
      obtain ⟨y320, hy320⟩ : ∃ y_ : List (S53), y_ = (x305003_1 ++ [(⟨wrap64 ((wrap64 ((wrap64 (10 * (x305003_1.length : Int))) + 1)) + t317), x4_1, wrap64 (1 + t314)⟩ : S53)]) := ⟨_, rfl⟩
      replace H : ((spec_l01PickInt.f s0_0 t318 t319 (([0, 0, 1, 2, 6] : List Int))).bind fun bt326 => (spec_l02Belt.l0 k1 (wrap64 ((wrap64 ((wrap64 (x4_1 - (wrap64 (1 + t314)))) - t298)) - bt326.1)) (wrap64 (x5_1 - 1)) s0_0 bt326.2.1 bt326.2.2 (wrap64 (5 + t292)) t298 t301 y320)) = some (r1, r2, r3, r4, r5, r6) := by first | (rw [hy320]; with_reducible exact H) | (have H2_ := (Option.bind_some _ _).symm.trans H; rw [hy320]; with_reducible exact H2_) | (have H2_ := (Option.bind_some _ _).symm.trans H; with_reducible exact H2_) | with_reducible exact H | (rw [hy320]; exact H) | exact H
      have Ny320 := uD hy320
      clear hy320
      obtain ⟨y323, hy323⟩ : ∃ y_ : List Int, y_ = (([0, 0, 1, 2, 6] : List Int)) := ⟨_, rfl⟩
      replace H : ((spec_l01PickInt.f s0_0 t318 t319 y323).bind fun bt326 => (spec_l02Belt.l0 k1 (wrap64 ((wrap64 ((wrap64 (x4_1 - (wrap64 (1 + t314)))) - t298)) - bt326.1)) (wrap64 (x5_1 - 1)) s0_0 bt326.2.1 bt326.2.2 (wrap64 (5 + t292)) t298 t301 y320)) = some (r1, r2, r3, r4, r5, r6) := by first | (rw [hy323]; with_reducible exact H) | (have H2_ := (Option.bind_some _ _).symm.trans H; rw [hy323]; with_reducible exact H2_) | (have H2_ := (Option.bind_some _ _).symm.trans H; with_reducible exact H2_) | with_reducible exact H | (rw [hy323]; exact H) | exact H
      have Ny323 := uD hy323
      clear hy323
      replace H := Option.bind_eq_some_iff.mp H
      obtain ⟨⟨t326, t327, t328⟩, A370, H⟩ := H
      replace H : (spec_l02Belt.l0 k1 (wrap64 ((wrap64 ((wrap64 (x4_1 - (wrap64 (1 + t314)))) - t298)) - t326)) (wrap64 (x5_1 - 1)) s0_0 t327 t328 (wrap64 (5 + t292)) t298 t301 y320) = some (r1, r2, r3, r4, r5, r6) := H
      have A37 := uD A370
      clear A370
      have H' := uD H
      clear H
      try go_wp2_with (first | ((with_reducible refine gate_callee (f := 75) rfl ?_); refine gl (some 29) Try.func75 #[.pointer (some ⟨g, 0, none⟩), .int .i64 9] ?_; (with_reducible refine (spec_l01Below.calls g s0_0 x1001_1 x1002_1 9 t314 t315 t316 w0 _ ?side1 ?side2 A26.out).mono ?_); (case side1 => exact IsS85.p HI0); (case side2 => exact pB HB (IsS85.ge HI0.out)); rintro e w38 ⟨rfl, hi, hb, hk⟩; refine ⟨_, rfl, ?_⟩; replace HO_305003 := uD (uX (Kd.R_keep (IsS85.apart (show IsS85 w0 _ g s0_0 x1001_1 x1002_1 from IsS85.p HI0) (pr HO_305003) (by decide)) hk (fun _ h => h.2)) (fun _ h => h.1)); replace BK291 := uD (KeepBut.blk hk (pk BK291) NB291_0.out (by simp)); replace BK304 := uD (KeepBut.blk hk (pk BK304) NB304_0.out (by simp)); replace HK := uD (KeepBut.trans (ph HK) hk (.inl rfl)); replace HB := uD (hb); replace HI0 := uD (hi); (try clear hb); (try clear hb2); (try clear hk); (try clear hi)))
      replace HO_305003 := uD (uT HO_305003.out)
      replace BK291 := uD (uJ BK291.out)
      replace BK304 := uD (uJ BK304.out)
      replace HI0 := uD (IsS85.drew HI0.out)
      replace HK := uD (keep_drew HK.out)
      replace HB := uD (uK HB.out)
      obtain ⟨Ao40, co40, eo40⟩ := Kd.R_slice HO_305003.out
      (first | subst eo40 | (injection eo40 with f1_ f2_ f3_; have f4_ := f1_.symm; have f5_ := f3_.symm; clear f1_ f2_ f3_; subst f4_; subst f5_))
      refine start_ (n := 17) (S := fun w' => w'.cell? ⟨gb304, 0, none⟩ = some (.int .i64 (wrap64 (5 + t292))) ∧ w'.cell? ⟨gb304, 1, none⟩ = some (.int .i64 t298) ∧ w'.cell? ⟨gb304, 2, none⟩ = some (.bool t301) ∧ w'.cell? ⟨gb304, 3, none⟩ = some (.slice Ao40 x305003_1.length co40)) (ds := [16]) #[F,F,F,F,F,F,F,F,F,F,F,F,F,F,F,F,F] (by kernel_rfl) rfl rfl ⟨(uF BK304.out 0).trans rfl, (uF BK304.out 1).trans rfl, (uF BK304.out 2).trans rfl, (uF BK304.out 3).trans rfl⟩ (fun hHeld => ?_); refine with_tabW spec_l02Belt.tab8 spec_l02Belt.bits8 (fun HT_ HW_ => ?_)
      generalize w38.drew = w39 at HO_305003 BK291 BK304 HI0 HK HB hHeld ⊢
      refine pu 0 (some 34) #[T,F,F,F,F,F,F,F,F,F,F,F,F,F,F,F,F] HT_ ?_
      refine pu 2 (some 36) #[T,F,T,F,F,F,F,F,F,F,F,F,F,F,F,F,F] HT_ ?_
      refine pu 7 (some 41) #[T,F,T,F,F,F,F,T,F,F,F,F,F,F,F,F,F] HT_ ?_
      refine pu 10 (some 44) #[T,F,T,F,F,F,F,T,F,F,T,F,F,F,F,F,F] HT_ ?_
      refine pu 11 (some 45) #[T,F,T,F,F,F,F,T,F,F,T,T,F,F,F,F,F] HT_ ?_
      refine tk 1 (some 35) #[T,T,T,F,F,F,F,T,F,F,T,T,F,F,F,F,F] HT_ HW_ hHeld ?_
      refine tk 3 (some 37) #[T,T,T,T,F,F,F,T,F,F,T,T,F,F,F,F,F] HT_ HW_ hHeld ?_
      refine pu 4 (some 38) #[T,T,T,T,T,F,F,T,F,F,T,T,F,F,F,F,F] HT_ ?_
      refine pu 5 (some 39) #[T,T,T,T,T,T,F,T,F,F,T,T,F,F,F,F,F] HT_ ?_
      refine pu 6 (some 40) #[T,T,T,T,T,T,T,T,F,F,T,T,F,F,F,F,F] HT_ ?_
      refine one_ (i := 8) (N := some 42) #[T,T,T,T,T,T,T,T,T,F,T,T,F,F,F,F,F] rfl rfl (one_of HT_.out (by kernel_rfl)) (by decide) (fun K hK => ?_)
      refine goes_ Try.func75 (by kernel_rfl) rfl #[.pointer (some ⟨g, 0, none⟩), .int .i64 9] (by rfl) rfl rfl (by (try simp only [List.map_toArray, List.map_cons, List.map_nil]); first | done | rfl | (simp only [List.length_drop, List.length_take]; rfl)) ?_
      with_reducible refine (spec_l01Below.calls g s0_0 t315 t316 9 t317 t318 t319 w0 _ ?side1 ?side2 A35.out).mono ?_
      (case side1 => exact IsS85.p HI0)
      (case side2 => exact pB HB (IsS85.ge HI0.out))
      rintro e w41 ⟨rfl, hi, hb, hk⟩
      refine ⟨_, rfl, ?_⟩
      replace HO_305003 := uD (uX (Kd.R_keep (IsS85.apart (show IsS85 w0 _ g s0_0 t315 t316 from IsS85.p HI0) (pr HO_305003) (by decide)) hk (fun _ h => h.2)) (fun _ h => h.1))
      replace BK291 := uD (KeepBut.blk hk (pk BK291) NB291_0.out (by simp))
      replace BK304 := uD (KeepBut.blk hk (pk BK304) NB304_0.out (by simp))
      replace HK := uD (KeepBut.trans (ph HK) hk (.inl rfl))
      replace HB := uD (hb)
      replace HI0 := uD (hi)
      (try clear hb)
      (try clear hb2)
      (try clear hk)
      (try clear hi)
      refine hK.out _ _ ⟨(uF BK304.out 0).trans rfl, (uF BK304.out 1).trans rfl, (uF BK304.out 2).trans rfl, (uF BK304.out 3).trans rfl⟩ (fun hHeld => ?_)
      clear hK K
      refine norm_ (a' := ?_) ?_ ?_
      rotate_left
      ·show uc _ (some 42) _ = _
       simp only [uc, uA, uB, uC, uZ, ua]
       rfl
      refine pu 9 (some 43) #[T,T,T,T,T,T,T,T,T,T,T,T,F,F,F,F,F] HT_ ?_
      refine pu 12 (some 46) #[T,T,T,T,T,T,T,T,T,T,T,T,T,F,F,F,F] HT_ ?_
      refine one_ (i := 13) (N := some 47) #[T,T,T,T,T,T,T,T,T,T,T,T,T,T,F,F,F] rfl rfl (one_of HT_.out (by kernel_rfl)) (by decide) (fun K hK => ?_)
      refine value_ (w1 := ?_) (v := ?_) (by rfl) rfl ?_ ?_
      rotate_left 2
      ·go_simp
       constructor
       ·rfl
       ·rfl
      refine hK.out _ _ ⟨(uF (uG BK304.out _) 0).trans rfl, (uF (uG BK304.out _) 1).trans rfl, (uF (uG BK304.out _) 2).trans rfl, (uF (uG BK304.out _) 3).trans rfl⟩ (fun hHeld => ?_)
      clear hK K
      refine norm_ (a' := ?_) ?_ ?_
      rotate_left
      ·show uc _ (some 47) _ = _
       simp only [uc, uA, uB, uC, uZ, ua]
       rfl
      refine one_ (i := 14) (N := some 48) #[T,T,T,T,T,T,T,T,T,T,T,T,T,T,T,F,F] rfl rfl (one_of HT_.out (by kernel_rfl)) (by decide) (fun K hK => ?_)
      refine Kd.R_append_step k53 w.heap.size (by rfl) (.tmp 35) (.tmp 47) 27 53 (.agg #[(.int .i64 0), (.int .i64 0), (.int .i64 0)]) 24 rfl Try.underlying27 info53 rfl (by decide) (by omega) (.slice Ao40 x305003_1.length co40) x305003_1 (⟨wrap64 ((wrap64 ((wrap64 (10 * (x305003_1.length : Int))) + 1)) + t317), x4_1, wrap64 (1 + t314)⟩ : S53) [.int .i64 (wrap64 ((wrap64 ((wrap64 (10 * (x305003_1.length : Int))) + 1)) + t317)), .int .i64 x4_1, .int .i64 (wrap64 (1 + t314))] (fun _ => True) (fun _ => False) rfl rfl ?aP (fun _ hk => hk.elim) ?aF ?aO (Below.refl _ _) ?aS ?aL ?_
      (case aP => exact k53_mkM _ _ _ (⟨wrap64 ((wrap64 ((wrap64 (10 * (x305003_1.length : Int))) + 1)) + t317), x4_1, wrap64 (1 + t314)⟩ : S53))
      (case aF => exact (fun _ _ => trivial))
      (case aO => exact (pr HO_305003))
      (case aS => exact (keep_size (w := w) (g := g) (row := none) (ph HK)))
      (case aL => have := LMc36.out; omega)
      intro v321 w42 ho hb hg hat
      rw [← Ny320.out] at ho
      replace BK291 := uD (blk_grown (pk BK291) hg (Kd.R_ne HO_305003.out BK291.out (by decide)))
      replace BK304 := uD (blk_grown (pk BK304) hg (Kd.R_ne HO_305003.out BK304.out (by decide)))
      replace HB := uD (below_weaken (pB HB (IsS85.ge HI0.out)) HL.out hb)
      replace HI0 := uD (IsS85.grown (IsS85.p HI0) hg (IsS85.own_ne HI0.out HO_305003.out (by decide)))
      replace HK := uD (KeepBut.trans (ph HK) (KeepBut.of_grown hg g) (Kd.R_base2 HO_305003.out))
      have HO322 := uD (ho)
      clear HO_305003
      clear ho hb hg hat
      obtain ⟨Ao43, co43, eo43⟩ := Kd.R_slice HO322.out
      (first | subst eo43 | (injection eo43 with f1_ f2_ f3_; have f4_ := f1_.symm; have f5_ := f3_.symm; clear f1_ f2_ f3_; subst f4_; subst f5_))
      refine hK.out _ _ ⟨(uF BK304.out 0).trans rfl, (uF BK304.out 1).trans rfl, (uF BK304.out 2).trans rfl, (uF BK304.out 3).trans rfl⟩ (fun hHeld => ?_)
      clear hK K
      refine norm_ (a' := ?_) ?_ ?_
      rotate_left
      ·show uc _ (some 48) _ = _
       simp only [uc, uA, uB, uC, uZ, ua]
       rfl
      refine pu 15 (some 49) #[T,T,T,T,T,T,T,T,T,T,T,T,T,T,T,T,F] HT_ ?_
      refine last_ (i := 16) (N := none) #[T,T,T,T,T,T,T,T,T,T,T,T,T,T,T,T,T] rfl rfl (one_of HT_.out (by kernel_rfl)) (by decide) (fun K hK => ?_)
      have hs44 : w42.cell? ⟨gb304, 3, none⟩ = some (.slice Ao40 x305003_1.length co40) := (uF BK304.out 3).trans rfl
      have hfs44 := uI BK304.out 3
      have hns44_0 := NB291_304.out
      have hms44_0 := NB304_291.out
      refine skip_ (w1 := ?_) (by rfl) rfl ?_ ?_
      rotate_left
      ·go_simp
       rfl
      refine hK.out _ _ ?_
      clear hK K
      refine done_ (done_of HT_.out (by kernel_rfl)) ?_
      try go_wp2
      have n0_ : Aside0 (Kd.R k53 53 (w42.setCell ⟨gb304, 3, none⟩ (.slice Ao43 y320.length co43)) w.heap.size (fun _ => True) (.slice Ao43 y320.length co43) y320) := ⟨by (with_reducible repeat (first | apply uU | apply uS | apply uT)); exact uX (uV (p := ⟨gb304, 3, none⟩) (uW HO322.out BK304.out (by decide)) (fun _ hk => hk.2) (.slice Ao43 y320.length co43)) (fun _ hk => trivial)⟩
      have n1_ : Aside0 ((w42.setCell ⟨gb304, 3, none⟩ (.slice Ao43 y320.length co43)).heap[gb291]? = some (.cells #[.int .i64 0, .int .i64 0, .bool false, .slice none 0 0] 29 (0, 0))) := ⟨by exact ps BK291⟩
      have n2_ : Aside0 ((w42.setCell ⟨gb304, 3, none⟩ (.slice Ao43 y320.length co43)).heap[gb304]? = some (.cells #[.int .i64 (wrap64 (5 + t292)), .int .i64 t298, .bool t301, .slice Ao43 y320.length co43] 29 (0, 0))) := ⟨by (with_reducible repeat first|apply uH|apply uJ|apply uG); refine uP (cs := #[.int .i64 (wrap64 (5 + t292)), .int .i64 t298, .bool t301, .slice Ao40 x305003_1.length co40]) ?_ 3 _ rfl; (with_reducible repeat first|apply uH|apply uJ|apply uG); exact BK304.out⟩
      have n3_ : Aside0 (IsS85 w0 (w42.setCell ⟨gb304, 3, none⟩ (.slice Ao43 y320.length co43)) g s0_0 t318 t319) := ⟨IsS85.p HI0⟩
      have n4_ : Aside0 (KeepBut w (w42.setCell ⟨gb304, 3, none⟩ (.slice Ao43 y320.length co43)) g none) := ⟨ph HK⟩
      have n5_ : Aside0 (Below w0.heap.size w0 (w42.setCell ⟨gb304, 3, none⟩ (.slice Ao43 y320.length co43))) := ⟨pB HB (IsS85.ge HI0.out)⟩
      (try clear HO322)
      (try clear BK291)
      (try clear BK304)
      (try clear HI0)
      (try clear HK)
      (try clear HB)
      generalize (w42.setCell ⟨gb304, 3, none⟩ (.slice Ao43 y320.length co43)) = w45 at n0_ n1_ n2_ n3_ n4_ n5_ ⊢
      have HO322 := n0_
      have BK291 := n1_
      have BK304 := n2_
      have HI0 := n3_
      have HK := n4_
      have HB := n5_
      clear n0_ n1_ n2_ n3_ n4_ n5_
      replace HO322 := uD (uT HO322.out)
      replace BK291 := uD (uJ BK291.out)
      replace BK304 := uD (uJ BK304.out)
      replace HI0 := uD (IsS85.drew HI0.out)
      replace HK := uD (keep_drew HK.out)
      replace HB := uD (uK HB.out)
      refine start_ (n := 11) (S := fun w' => w'.cell? ⟨gb304, 0, none⟩ = some (.int .i64 (wrap64 (5 + t292))) ∧ w'.cell? ⟨gb304, 1, none⟩ = some (.int .i64 t298) ∧ w'.cell? ⟨gb304, 2, none⟩ = some (.bool t301) ∧ w'.cell? ⟨gb304, 3, none⟩ = some (.slice Ao43 y320.length co43)) (ds := []) #[F,F,F,F,F,F,F,F,F,F,F] (by kernel_rfl) rfl rfl ⟨(uF BK304.out 0).trans rfl, (uF BK304.out 1).trans rfl, (uF BK304.out 2).trans rfl, (uF BK304.out 3).trans rfl⟩ (fun hHeld => ?_); refine with_tabW spec_l02Belt.tab9 spec_l02Belt.bits9 (fun HT_ HW_ => ?_)
      generalize w45.drew = w46 at HO322 BK291 BK304 HI0 HK HB HO322 hHeld ⊢
      refine pu 0 (some 50) #[T,F,F,F,F,F,F,F,F,F,F] HT_ ?_
      refine pu 1 (some 51) #[T,T,F,F,F,F,F,F,F,F,F] HT_ ?_
      refine pu 2 (some 52) #[T,T,T,F,F,F,F,F,F,F,F] HT_ ?_
      refine pu 3 (some 53) #[T,T,T,T,F,F,F,F,F,F,F] HT_ ?_
      refine pu 6 (some 56) #[T,T,T,T,F,F,T,F,F,F,F] HT_ ?_
      refine tk 4 (some 54) #[T,T,T,T,T,F,T,F,F,F,F] HT_ HW_ hHeld ?_
      refine pu 5 (some 55) #[T,T,T,T,T,T,T,F,F,F,F] HT_ ?_
      refine one_ (i := 7) (N := some 57) #[T,T,T,T,T,T,T,T,F,F,F] rfl rfl (one_of HT_.out (by kernel_rfl)) (by decide) (fun K hK => ?_)
      refine Kd.R_lit_step (Kd.int .i64) _ 3 ?hg (N := 57) ?hd (xs := ([0, 0, 1, 2, 6] : List Int)) (inner := [.int .i64 0, .int .i64 0, .int .i64 1, .int .i64 2, .int .i64 6]) (ok := fun _ => True) (okp := fun _ => True) ?hr ?hp (fun _ hk => hk) trivial (Below.refl _ _) (Nat.le_refl _) (by simp) ?_; (case hd => rfl); (case hg => rfl); (case hr => first | (go_simp; done) | (go_simp; rfl)); (case hp => exact (Reps.one (show Kd.M (Kd.int .i64) _ _ _ 0 [.int .i64 0] from rfl) (Reps.one (show Kd.M (Kd.int .i64) _ _ _ 0 [.int .i64 0] from rfl) (Reps.one (show Kd.M (Kd.int .i64) _ _ _ 1 [.int .i64 1] from rfl) (Reps.one (show Kd.M (Kd.int .i64) _ _ _ 2 [.int .i64 2] from rfl) (Reps.one (show Kd.M (Kd.int .i64) _ _ _ 6 [.int .i64 6] from rfl) (Reps.none _ _)))))))
      intro v324 w47 ho48 hb hg_ hnew_
      clear hg_ hnew_
      (first | rw [← Ny323.out] at ho48 | (simp only [Int.reduceToNat] at ho48; rw [← Ny323.out] at ho48))
      replace HO322 := uD (Kd.R_below (pr HO322) hb)
      have HO325 := uD (Kd.R_lower ho48 (keep_size (w := w) (g := g) (row := none) (ph HK)))
      replace BK291 := uD (blk_below (pk BK291) hb)
      replace BK304 := uD (blk_below (pk BK304) hb)
      replace HK := uD (KeepBut.trans (ph HK) (KeepBut.of_below hb g none) (.inl rfl))
      replace HB := uD (uO (pB HB (IsS85.ge HI0.out)) hb)
      replace HI0 := uD (IsS85.below (IsS85.p HI0) hb)
      clear hb ho48
      obtain ⟨Ao49, co49, eo49⟩ := Kd.R_slice HO325.out
      (first | subst eo49 | (injection eo49 with f1_ f2_ f3_; have f4_ := f1_.symm; have f5_ := f3_.symm; clear f1_ f2_ f3_; subst f4_; subst f5_))
      refine hK.out _ _ ⟨(uF BK304.out 0).trans rfl, (uF BK304.out 1).trans rfl, (uF BK304.out 2).trans rfl, (uF BK304.out 3).trans rfl⟩ (fun hHeld => ?_)
      clear hK K
      refine norm_ (a' := ?_) ?_ ?_
      rotate_left
      ·show uc _ (some 57) _ = _
       simp only [uc, uA, uB, uC, uZ, ua]
       rfl
      refine one_ (i := 8) (N := some 58) #[T,T,T,T,T,T,T,T,T,F,F] rfl rfl (one_of HT_.out (by kernel_rfl)) (by decide) (fun K hK => ?_)
      refine goes_ Try.func67 (by kernel_rfl) rfl #[.pointer (some ⟨g, 0, none⟩), .slice Ao49 y323.length co49] (by rfl) rfl rfl (by (try simp only [List.map_toArray, List.map_cons, List.map_nil]); first | done | rfl | (simp only [List.length_drop, List.length_take]; rfl)) ?_
      with_reducible refine (spec_l01PickInt.calls g s0_0 t318 t319 _ _ y323 t326 t327 t328 w0 _ ?side1 ?side2 ?side3 ?side4 ?side5 A37.out).mono ?_
      (case side1 => exact IsS85.p HI0)
      (case side2 => exact pB HB (IsS85.ge HI0.out))
      (case side3 => exact pc ((Kd.R_reads' HO325.out).2.2))
      (case side4 => exact (Kd.R_reads' HO325.out).2.1)
      (case side5 => exact far_slice (IsS85.own_ne HI0.out HO325.out (by decide)))
      rintro e w50 ⟨rfl, hi, hb, hk⟩
      refine ⟨_, rfl, ?_⟩
      replace BK291 := uD (KeepBut.blk hk (pk BK291) NB291_0.out (by simp))
      replace BK304 := uD (KeepBut.blk hk (pk BK304) NB304_0.out (by simp))
      replace HO322 := uD (uX (Kd.R_keep (IsS85.apart (show IsS85 w0 _ g s0_0 t318 t319 from IsS85.p HI0) (pr HO322) (by decide)) hk (fun _ h => h.2)) (fun _ h => h.1))
      replace HO325 := uD (uX (Kd.R_keep (IsS85.apart (show IsS85 w0 _ g s0_0 t318 t319 from IsS85.p HI0) (pr HO325) (by decide)) hk (fun _ h => h.2)) (fun _ h => h.1))
      replace HK := uD (KeepBut.trans (ph HK) hk (.inl rfl))
      replace HB := uD (hb)
      replace HI0 := uD (hi)
      (try clear hb)
      (try clear hb2)
      (try clear hk)
      (try clear hi)
      refine hK.out _ _ ⟨(uF BK304.out 0).trans rfl, (uF BK304.out 1).trans rfl, (uF BK304.out 2).trans rfl, (uF BK304.out 3).trans rfl⟩ (fun hHeld => ?_)
      clear hK K
      refine norm_ (a' := ?_) ?_ ?_
      rotate_left
      ·show uc _ (some 58) _ = _
       simp only [uc, uA, uB, uC, uZ, ua]
       rfl
      refine pu 9 (some 59) #[T,T,T,T,T,T,T,T,T,T,F] HT_ ?_
      refine pu 10 (some 4) #[T,T,T,T,T,T,T,T,T,T,T] HT_ ?_
      refine done_ (done_of HT_.out (by kernel_rfl)) ?_
      try go_wp2
      go_roundg k1
      case measure => have := HK1.out; omega
      case rel => exact ⟨(wrap64 ((wrap64 ((wrap64 (x4_1 - (wrap64 (1 + t314)))) - t298)) - t326)), (wrap64 (x5_1 - 1)), (t327), (t328), (y320), (.slice Ao43 y320.length co43), (by first | rfl | (simp; done) | (simp [*]; done)), (by first | rfl | (simp; done) | (simp [*]; done)), H', ⟨by have := HK1.out; omega⟩, ⟨by (with_reducible repeat (first | apply uU | apply uS | apply uT)); exact HO322.out⟩, ⟨by (with_reducible repeat first|apply uH|apply uJ|apply uG); exact BK291.out⟩, ⟨by (with_reducible repeat first|apply uH|apply uJ|apply uG); exact BK304.out⟩, ⟨IsS85.p HI0⟩, ⟨ph HK⟩, ⟨pB HB (IsS85.ge HI0.out)⟩⟩
     ·rw [if_neg c36] at H
      exact absurd H (by simp)
   ·rw [if_neg c25] at H
    have c25b0 : decide (0 < x5_1) = false := decide_eq_false c25
    clear c25
    simp only [Option.some.injEq, Prod.mk.injEq] at H
    obtain ⟨rfl, rfl, rfl, rfl, rfl, rfl⟩ := H
    have hnb51 := NB304_291.out
    have hnc51 := NB291_304.out
    have hnb52 := NB304_0.out
    have hnc52 := NB0_304.out
    obtain ⟨hcz53_0, hcz53_1, hcz53_2, hcz53_3, hfz53_0, hfz53_1, hfz53_2, hfz53_3⟩ := cz4 BK304
    have hnb54 := NB291_0.out
    have hnc54 := NB0_291.out
    obtain ⟨hcz55_0, hcz55_1, hcz55_2, hcz55_3, hfz55_0, hfz55_1, hfz55_2, hfz55_3⟩ := cz4 BK291
    obtain ⟨Ao56, co56, eo56⟩ := Kd.R_slice HO_305003.out
    subst eo56
    go_wp2
    refine bodyPost_ret (results_cell_row rfl _ _ gb291 29 #[.int .i64 (wrap64 (5 + t292)), .int .i64 t298, .bool t301, .slice Ao56 x305003_1.length co56] (0, 0) _ rfl (by (with_reducible repeat first|apply uH|apply uJ|apply uG); refine uP (cs := #[.int .i64 (wrap64 (5 + t292)), .int .i64 t298, .bool t301, .slice none 0 0]) ?_ 3 _ rfl; (with_reducible repeat first|apply uH|apply uJ|apply uG); refine uP (cs := #[.int .i64 (wrap64 (5 + t292)), .int .i64 t298, .bool false, .slice none 0 0]) ?_ 2 _ rfl; (with_reducible repeat first|apply uH|apply uJ|apply uG); refine uP (cs := #[.int .i64 (wrap64 (5 + t292)), .int .i64 0, .bool false, .slice none 0 0]) ?_ 1 _ rfl; (with_reducible repeat first|apply uH|apply uJ|apply uG); refine uP (cs := #[.int .i64 0, .int .i64 0, .bool false, .slice none 0 0]) ?_ 0 _ rfl; (with_reducible repeat first|apply uH|apply uJ|apply uG); exact BK291.out) Try.underlying29 rfl (by kernel_rfl)) rfl ?_
    exact ⟨_, by first | rfl | (simp [errW_none, errW_some] <;> rfl) | (simp [*, errW_none, errW_some] <;> rfl), by (with_reducible repeat (first | apply uU | apply uS | apply uT)); exact uX (uV (p := ⟨gb291, 3, none⟩) (uV (p := ⟨gb291, 2, none⟩) (uV (p := ⟨gb291, 1, none⟩) (uV (p := ⟨gb291, 0, none⟩) (uW HO_305003.out BK291.out (by decide)) (fun _ hk => hk.2) (.int .i64 (wrap64 (5 + t292)))) (fun _ hk => hk.2) (.int .i64 t298)) (fun _ hk => hk.2) (.bool t301)) (fun _ hk => hk.2) (.slice Ao56 x305003_1.length co56)) (fun _ hk => trivial), IsS85.p HI0, pB HB (IsS85.ge HI0.out), ph HK⟩

end Go.Proofs.Ytbdjbdoelbmjcaa.PFnBeltEnters
