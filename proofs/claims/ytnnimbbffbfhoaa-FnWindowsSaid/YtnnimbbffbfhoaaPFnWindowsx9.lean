-- Written by a program of this session (wip/myprint.py: the kit's print with changes): not by print.sh itself.
import Derived.Test.YtnnimbbffbfhoaaPFnWindowsx0
import Derived.Test.YtnnimbbffbfhoaaPFnWindowsx8
namespace Go.Proofs.Ytnnimbbffbfhoaa.PFnWindows
open Go.RowKit Go.Proofs.YtnnimbbffbfhoaaW.PrintWords Go.Proofs.YtnnimbbffbfhoaaW.PrintLast Go.Proofs.YtnnimbbffbfhoaaW.PrintMore
open Go renaming Act.put → uc
open Go.Proofs.YtnnimbbffbfhoaaW.PrintLast renaming any_of → uY, i64_w → uZ, i32_w → ua, pure_ → ub
open Go.Proofs.YtnnimbbffbfhoaaW.PrintWords renaming Aside0.mk → uD, pw_below_drewN → uE, blk_cell → uF, blk_alloc → uG, blk_drewN → uH, blk_frozen → uI, blk_drew → uJ, below_drew1 → uK, below_alloc → uL, below_set → uM, below_size → uN, below_step → uO, blk_put → uP, blk_far → uQ, Kd.R_drewN → uS, Kd.R_drew → uT, Kd.R_alloc → uU, Kd.R_far → uV, Kd.R_types → uW, Kd.R_mono → uX
open List renaming setIfInBounds_toArray → uA, set_cons_zero → uB, set_cons_succ → uC
attribute [local go_sem] max2_int min2_int max_two min_two max_three min_three max_four min_four   -- for this text's walks alone
set_option linter.unusedVariables false
set_option linter.unusedSimpArgs false

/-! ### spec_l02Belt: function 82 -/
def spec_l02Belt.l0 : Nat → Int → Int → List Int → Int → Int → Int → Int → Bool → List (S74) → Option (Int × Int × Bool × (List (S74)) × Int × Int)
 | 0, _, _, _, _, _, _, _, _, _ => none
 | k + 1, x4, x5, x1000, x1001, x1002, x189000, x189001, x189002, x189003 => if x5 > 0 then ((spec_l01Below.f x1000 x1001 x1002 9).bind fun bt198 => (if x4 < (wrap64 (1 + bt198.1)) then (some (x189000, x189001, x189002, x189003, bt198.2.1, bt198.2.2)) else ((spec_l01Below.f x1000 bt198.2.1 bt198.2.2 9).bind fun bt201 => (if x189003.length < 5864062014805 then ((spec_l01PickInt.f x1000 bt201.2.1 bt201.2.2 (([0, 0, 1, 2, 6] : List Int))).bind fun bt210 => (spec_l02Belt.l0 k (wrap64 ((wrap64 ((wrap64 (x4 - (wrap64 (1 + bt198.1)))) - x189001)) - bt210.1)) (wrap64 (x5 - 1)) x1000 bt210.2.1 bt210.2.2 x189000 x189001 x189002 (x189003 ++ [(⟨wrap64 ((wrap64 ((wrap64 (10 * (x189003.length : Int))) + 1)) + bt201.1), x4, wrap64 (1 + bt198.1)⟩ : S74)]))) else (none))))) else (some (x189000, x189001, x189002, x189003, x1001, x1002))
def spec_l02Belt.f (k : Nat) (s0_0 : List Int) (s0_1 : Int) (s0_2 : Int) : Option (Int × Int × Bool × (List (S74)) × Int × Int) := (spec_l01Below.f s0_0 s0_1 s0_2 60).bind fun bt176 => ((spec_l01PickInt.f s0_0 bt176.2.1 bt176.2.2 (([0, 0, 1, 2, 5] : List Int))).bind fun bt182 => ((spec_l01Once.f s0_0 bt182.2.1 bt182.2.2 4).bind fun bt185 => ((spec_l01PickInt.f s0_0 bt185.2.1 bt185.2.2 (([0, 0, 1, 3, 10] : List Int))).bind fun bt192 => ((spec_l01Below.f s0_0 bt192.2.1 bt192.2.2 7).bind fun bt195 => (spec_l02Belt.l0 k (wrap64 ((wrap64 (5 + bt176.1)) - bt192.1)) bt195.1 s0_0 bt195.2.1 bt195.2.2 (wrap64 (5 + bt176.1)) bt182.1 bt185.1 ([] : List (S74)))))))
theorem spec_l02Belt.mono_l : ∀ k, (∀ y0 y1 y2 y3 y4 y5 y6 y7 y8, LeO (spec_l02Belt.l0 k y0 y1 y2 y3 y4 y5 y6 y7 y8) (spec_l02Belt.l0 (k + 1) y0 y1 y2 y3 y4 y5 y6 y7 y8))
 | 0 => fun _ _ _ _ _ _ _ _ _ r h => by simp [spec_l02Belt.l0] at h
 | k + 1 => by
  have ih0 := spec_l02Belt.mono_l k
  ·intro y0 y1 y2 y3 y4 y5 y6 y7 y8
   unfold spec_l02Belt.l0
   repeat' first
   | (with_reducible exact ih0 _ _ _ _ _ _ _ _ _)
   | (with_reducible exact LeO.refl _)
   | (with_reducible exact LeO.none _)
   | (with_reducible refine LeO.ite ?_ ?_)
   | (with_reducible refine LeO.bind ?_ (fun _ => ?_))
   | exact ih0 _ _ _ _ _ _ _ _ _
   | exact LeO.none _
   | refine LeO.ite ?_ ?_
   | refine LeO.bind ?_ (fun _ => ?_)
theorem spec_l02Belt.mono : ∀ a0 a1 a2 k, LeO (spec_l02Belt.f k a0 a1 a2) (spec_l02Belt.f (k + 1) a0 a1 a2) := by
 intro a0 a1 a2 k
 have ih0 := spec_l02Belt.mono_l k
 unfold spec_l02Belt.f
 repeat' first
   | (with_reducible exact ih0 _ _ _ _ _ _ _ _ _)
   | (with_reducible exact LeO.refl _)
   | (with_reducible exact LeO.none _)
   | (with_reducible refine LeO.ite ?_ ?_)
   | (with_reducible refine LeO.bind ?_ (fun _ => ?_))
   | exact ih0 _ _ _ _ _ _ _ _ _
   | exact LeO.none _
   | refine LeO.ite ?_ ?_
   | refine LeO.bind ?_ (fun _ => ?_)
def spec_l02Belt.T8 : Bool × List (List Nat × List Nat) := (true, [([], []), ([0], [0]), ([], []), ([2], [2]), ([3], [3]), ([4], [4]), ([5], [5]), ([], []), ([7], [7]), ([6, 8], [6, 8]), ([], []), ([], []), ([9, 10, 11], [9, 10, 11]), ([12], [12]), ([1, 13, 8], [1, 13]), ([0, 1, 2, 3, 4, 5, 6, 7, 8, 9, 10, 11, 12, 13, 14], []), ([15, 14, 14, 0, 1, 2, 3, 4, 5, 6, 7, 8, 9, 10, 11, 12, 13, 14], [14, 15])])
def spec_l02Belt.B8 : List Nat := [0, 1, 0, 4, 12, 28, 60, 0, 128, 508, 0, 0, 4092, 8188, 16383, 32767, 65535]
theorem spec_l02Belt.tab8 : rtab .any (opsOf Try.f82 8) = spec_l02Belt.T8 := by kernel_rfl
theorem spec_l02Belt.bits8 : waitsOk spec_l02Belt.T8.2 spec_l02Belt.B8 = true := by kernel_rfl
def spec_l02Belt.T9 : Bool × List (List Nat × List Nat) := (true, [([], []), ([], []), ([0, 1], [0, 1]), ([], []), ([3], [3]), ([2, 4], [2, 4]), ([], []), ([], []), ([6, 7], [6, 7]), ([5, 8], [5, 8]), ([9, 8, 0, 1, 2, 3, 4, 5, 6, 7, 8, 9], [0, 9])])
def spec_l02Belt.B9 : List Nat := [0, 0, 3, 0, 8, 31, 0, 0, 192, 511, 1023]
theorem spec_l02Belt.tab9 : rtab .any (opsOf Try.f82 9) = spec_l02Belt.T9 := by kernel_rfl
theorem spec_l02Belt.bits9 : waitsOk spec_l02Belt.T9.2 spec_l02Belt.B9 = true := by kernel_rfl
set_option maxHeartbeats 8000000 in
set_option maxRecDepth 100000 in
theorem spec_l02Belt.calls (k : Nat) (g : Nat) (s0_0 : List Int) (s0_1 : Int) (s0_2 : Int) (r1 : Int) (r2 : Int) (r3 : Bool) (r4 : List (S74)) (r5 : Int) (r6 : Int) (w0 w : World) (hI : IsS127 w0 w g s0_0 s0_1 s0_2) (hB : Below w0.heap.size w0 w) (h : spec_l02Belt.f k s0_0 s0_1 s0_2 = some (r1, r2, r3, r4, r5, r6)) :
  Calls Try.prog 82 #[.pointer (some ⟨g, 0, none⟩)] w fun e w' => ∃ v3_ : Value, e = .returned (.agg #[.int .i64 r1, .int .i64 r2, .bool r3, v3_]) ∧ Kd.R k74 74 w' w.heap.size (fun _ => True) v3_ r4 ∧ IsS127 w0 w' g s0_0 r5 r6 ∧ Below w0.heap.size w0 w' ∧ KeepBut w w' g none := by
 have hu63 := Try.underlying63
 have hu74 := Try.underlying74
 have HI0 := uD hI
 have HK := uD (KeepBut.refl w g none)
 have HL := uD hB.size
 clear hI
 have HW0 := uD hB.size
 have HB := uD hB
 clear hB
 have H : ((spec_l01Below.f s0_0 s0_1 s0_2 60).bind fun bt176 => ((spec_l01PickInt.f s0_0 bt176.2.1 bt176.2.2 (([0, 0, 1, 2, 5] : List Int))).bind fun bt182 => ((spec_l01Once.f s0_0 bt182.2.1 bt182.2.2 4).bind fun bt185 => ((spec_l01PickInt.f s0_0 bt185.2.1 bt185.2.2 (([0, 0, 1, 3, 10] : List Int))).bind fun bt192 => ((spec_l01Below.f s0_0 bt192.2.1 bt192.2.2 7).bind fun bt195 => (spec_l02Belt.l0 k (wrap64 ((wrap64 (5 + bt176.1)) - bt192.1)) bt195.1 s0_0 bt195.2.1 bt195.2.2 (wrap64 (5 + bt176.1)) bt182.1 bt185.1 ([] : List (S74)))))))) = some (r1, r2, r3, r4, r5, r6) := h
 clear h
 replace H := Option.bind_eq_some_iff.mp H
 obtain ⟨⟨t176, t177, t178⟩, A20, H⟩ := H
 replace H : ((spec_l01PickInt.f s0_0 t177 t178 (([0, 0, 1, 2, 5] : List Int))).bind fun bt182 => ((spec_l01Once.f s0_0 bt182.2.1 bt182.2.2 4).bind fun bt185 => ((spec_l01PickInt.f s0_0 bt185.2.1 bt185.2.2 (([0, 0, 1, 3, 10] : List Int))).bind fun bt192 => ((spec_l01Below.f s0_0 bt192.2.1 bt192.2.2 7).bind fun bt195 => (spec_l02Belt.l0 k (wrap64 ((wrap64 (5 + t176)) - bt192.1)) bt195.1 s0_0 bt195.2.1 bt195.2.2 (wrap64 (5 + t176)) bt182.1 bt185.1 ([] : List (S74))))))) = some (r1, r2, r3, r4, r5, r6) := H
 have A2 := uD A20
 clear A20
 obtain ⟨y179, hy179⟩ : ∃ y_ : List Int, y_ = (([0, 0, 1, 2, 5] : List Int)) := ⟨_, rfl⟩
 replace H : ((spec_l01PickInt.f s0_0 t177 t178 y179).bind fun bt182 => ((spec_l01Once.f s0_0 bt182.2.1 bt182.2.2 4).bind fun bt185 => ((spec_l01PickInt.f s0_0 bt185.2.1 bt185.2.2 (([0, 0, 1, 3, 10] : List Int))).bind fun bt192 => ((spec_l01Below.f s0_0 bt192.2.1 bt192.2.2 7).bind fun bt195 => (spec_l02Belt.l0 k (wrap64 ((wrap64 (5 + t176)) - bt192.1)) bt195.1 s0_0 bt195.2.1 bt195.2.2 (wrap64 (5 + t176)) bt182.1 bt185.1 ([] : List (S74))))))) = some (r1, r2, r3, r4, r5, r6) := by first | (rw [hy179]; with_reducible exact H) | (have H2_ := (Option.bind_some _ _).symm.trans H; rw [hy179]; with_reducible exact H2_) | (have H2_ := (Option.bind_some _ _).symm.trans H; with_reducible exact H2_) | with_reducible exact H | (rw [hy179]; exact H) | exact H
 have Ny179 := uD hy179
 clear hy179
 replace H := Option.bind_eq_some_iff.mp H
 obtain ⟨⟨t182, t183, t184⟩, A30, H⟩ := H
 replace H : ((spec_l01Once.f s0_0 t183 t184 4).bind fun bt185 => ((spec_l01PickInt.f s0_0 bt185.2.1 bt185.2.2 (([0, 0, 1, 3, 10] : List Int))).bind fun bt192 => ((spec_l01Below.f s0_0 bt192.2.1 bt192.2.2 7).bind fun bt195 => (spec_l02Belt.l0 k (wrap64 ((wrap64 (5 + t176)) - bt192.1)) bt195.1 s0_0 bt195.2.1 bt195.2.2 (wrap64 (5 + t176)) t182 bt185.1 ([] : List (S74)))))) = some (r1, r2, r3, r4, r5, r6) := H
 have A3 := uD A30
 clear A30
 replace H := Option.bind_eq_some_iff.mp H
 obtain ⟨⟨t185, t186, t187⟩, A40, H⟩ := H
 replace H : ((spec_l01PickInt.f s0_0 t186 t187 (([0, 0, 1, 3, 10] : List Int))).bind fun bt192 => ((spec_l01Below.f s0_0 bt192.2.1 bt192.2.2 7).bind fun bt195 => (spec_l02Belt.l0 k (wrap64 ((wrap64 (5 + t176)) - bt192.1)) bt195.1 s0_0 bt195.2.1 bt195.2.2 (wrap64 (5 + t176)) t182 t185 ([] : List (S74))))) = some (r1, r2, r3, r4, r5, r6) := H
 have A4 := uD A40
 clear A40
 obtain ⟨y189, hy189⟩ : ∃ y_ : List Int, y_ = (([0, 0, 1, 3, 10] : List Int)) := ⟨_, rfl⟩
 replace H : ((spec_l01PickInt.f s0_0 t186 t187 y189).bind fun bt192 => ((spec_l01Below.f s0_0 bt192.2.1 bt192.2.2 7).bind fun bt195 => (spec_l02Belt.l0 k (wrap64 ((wrap64 (5 + t176)) - bt192.1)) bt195.1 s0_0 bt195.2.1 bt195.2.2 (wrap64 (5 + t176)) t182 t185 ([] : List (S74))))) = some (r1, r2, r3, r4, r5, r6) := by first | (rw [hy189]; with_reducible exact H) | (have H2_ := (Option.bind_some _ _).symm.trans H; rw [hy189]; with_reducible exact H2_) | (have H2_ := (Option.bind_some _ _).symm.trans H; with_reducible exact H2_) | with_reducible exact H | (rw [hy189]; exact H) | exact H
 have Ny189 := uD hy189
 clear hy189
 replace H := Option.bind_eq_some_iff.mp H
 obtain ⟨⟨t192, t193, t194⟩, A50, H⟩ := H
 replace H : ((spec_l01Below.f s0_0 t193 t194 7).bind fun bt195 => (spec_l02Belt.l0 k (wrap64 ((wrap64 (5 + t176)) - t192)) bt195.1 s0_0 bt195.2.1 bt195.2.2 (wrap64 (5 + t176)) t182 t185 ([] : List (S74)))) = some (r1, r2, r3, r4, r5, r6) := H
 have A5 := uD A50
 clear A50
 replace H := Option.bind_eq_some_iff.mp H
 obtain ⟨⟨t195, t196, t197⟩, A60, H⟩ := H
 replace H : (spec_l02Belt.l0 k (wrap64 ((wrap64 (5 + t176)) - t192)) t195 s0_0 t196 t197 (wrap64 (5 + t176)) t182 t185 ([] : List (S74))) = some (r1, r2, r3, r4, r5, r6) := H
 have A6 := uD A60
 clear A60
 have H' := uD H
 clear H
 go_enter Try.func82, Try.ntmps82
 try go_wp2_with (first | ((with_reducible refine gate_dst (N := 2) rfl ?_); refine box_event ?hg (N := 2) ?hd (cs := #[.int .i64 0, .int .i64 0, .bool false, .slice none 0 0]) (t := 63) ?hr ?_; (case hd => rfl); (case hg => rfl); (case hr => first | (go_simp; done) | (go_simp; rfl)); intro gb175 hg w7 hbox hb; have n0_ := uD (IsS127.below (by repeat (first | (with_reducible first | exact HI0.out | apply IsS127.alloc | apply IsS127.drewN | apply IsS127.drew | apply IsS127.set_1 | apply IsS127.set_2) | exact HI0.out)) hb); have n1_ := uD (KeepBut.trans (by repeat (first | (with_reducible first | exact HK.out | apply KeepBut.set_ | apply keep_drewN | apply keep_drew | apply keep_alloc) | exact HK.out)) (KeepBut.of_below hb g none) (.inl rfl)); have n2_ := uD (uO (by repeat (first | (with_reducible first | exact HB.out | apply uL | apply uE | apply uK | refine uM ?_ (IsS127.ge HI0.out)) | exact HB.out)) hb); have n3_ := uD (hbox); have n4_ := uD ((by rw [hg]; exact (keep_size (w := w) (g := g) (row := none) (by repeat (first | (with_reducible first | exact HK.out | apply KeepBut.set_ | apply keep_drewN | apply keep_drew | apply keep_alloc) | exact HK.out))) : w.heap.size ≤ gb175)); have n5_ := uD ((Nat.le_trans HW0.out (by rw [hg]; exact (keep_size (w := w) (g := g) (row := none) (by repeat (first | (with_reducible first | exact HK.out | apply KeepBut.set_ | apply keep_drewN | apply keep_drew | apply keep_alloc) | exact HK.out))) : w.heap.size ≤ gb175) : w0.heap.size ≤ gb175)); have n6_ := uD ((by rw [hg]; exact Nat.ne_of_lt (IsS127.lt (show IsS127 w0 _ g s0_0 s0_1 s0_2 from by repeat (first | (with_reducible first | exact HI0.out | apply IsS127.alloc | apply IsS127.drewN | apply IsS127.drew | apply IsS127.set_1 | apply IsS127.set_2) | exact HI0.out))) : g ≠ gb175)); have n7_ := uD ((by rw [hg]; exact Nat.ne_of_gt (IsS127.lt (show IsS127 w0 _ g s0_0 s0_1 s0_2 from by repeat (first | (with_reducible first | exact HI0.out | apply IsS127.alloc | apply IsS127.drewN | apply IsS127.drew | apply IsS127.set_1 | apply IsS127.set_2) | exact HI0.out))) : gb175 ≠ g)); clear HI0; clear HK; clear HB; have HI0 := n0_; have HK := n1_; have HB := n2_; have BK175 := n3_; have GW175 := n4_; have GE175 := n5_; have NB0_175 := n6_; have NB175_0 := n7_; clear n0_ n1_ n2_ n3_ n4_ n5_ n6_ n7_; clear hb hbox hg) | ((with_reducible refine gate_callee (f := 83) rfl ?_); refine goesL_ (some 8) rfl rfl Try.func83 (by kernel_rfl) rfl #[.pointer (some ⟨g, 0, none⟩), .int .i64 60] rfl (by (try simp only [List.map_toArray, List.map_cons, List.map_nil]); first | done | rfl | (simp only [List.length_drop, List.length_take]; rfl)) ?_; (with_reducible refine (spec_l01Below.calls g s0_0 s0_1 s0_2 60 t176 t177 t178 w0 _ ?side1 ?side2 A2.out).mono ?_); (case side1 => repeat (first | (with_reducible first | exact HI0.out | apply IsS127.alloc | apply IsS127.drewN | apply IsS127.drew | apply IsS127.set_1 | apply IsS127.set_2 | refine IsS127.far ?_ NB0_175.out _) | exact HI0.out)); (case side2 => repeat (first | (with_reducible first | exact HB.out | apply uL | apply uE | apply uK | refine uM ?_ (IsS127.ge HI0.out) | refine uM ?_ GE175.out) | exact HB.out)); rintro e w8 ⟨rfl, hi, hb, hk⟩; refine ⟨_, rfl, ?_⟩; have n0_ := uD (KeepBut.blk hk (g' := gb175) (o := .cells #[.int .i64 0, .int .i64 0, .bool false, .slice none 0 0] 63 (0, 0)) (by (with_reducible repeat (first | refine uH ?_ _ | refine uJ ?_ | refine uG ?_ _)); exact BK175.out) NB175_0.out (by simp)); have n1_ := uD (KeepBut.trans (by repeat (first | (with_reducible first | exact HK.out | apply KeepBut.set_ | apply keep_drewN | apply keep_drew | apply keep_alloc | refine keep_far ?_ GW175.out _) | exact HK.out)) hk (.inl rfl)); have n2_ := uD (hb); have n3_ := uD (hi); clear BK175; clear HK; clear HB; clear HI0; have BK175 := n0_; have HK := n1_; have HB := n2_; have HI0 := n3_; clear n0_ n1_ n2_ n3_; (try clear hb); (try clear hb2); (try clear hk); (try clear hi)) | ((with_reducible refine gate_dst (N := 11) rfl ?_); refine Kd.R_lit (Kd.int .i64) _ 3 ?hg (N := 11) ?hd (xs := ([0, 0, 1, 2, 5] : List Int)) (inner := [.int .i64 0, .int .i64 0, .int .i64 1, .int .i64 2, .int .i64 5]) (ok := fun _ => True) (okp := fun _ => True) ?hr ?hp (fun _ hk => hk) trivial (Below.refl _ _) (Nat.le_refl _) (by simp) ?_; (case hd => rfl); (case hg => rfl); (case hr => first | (go_simp; done) | (go_simp; rfl)); (case hp => exact (Reps.one (show Kd.M (Kd.int .i64) _ _ _ 0 [.int .i64 0] from rfl) (Reps.one (show Kd.M (Kd.int .i64) _ _ _ 0 [.int .i64 0] from rfl) (Reps.one (show Kd.M (Kd.int .i64) _ _ _ 1 [.int .i64 1] from rfl) (Reps.one (show Kd.M (Kd.int .i64) _ _ _ 2 [.int .i64 2] from rfl) (Reps.one (show Kd.M (Kd.int .i64) _ _ _ 5 [.int .i64 5] from rfl) (Reps.none _ _))))))); intro v180 w9 ho10 hb hg_ hnew_; clear hg_ hnew_; (first | rw [← Ny179.out] at ho10 | (simp only [Int.reduceToNat] at ho10; rw [← Ny179.out] at ho10)); have n0_ := uD (Kd.R_lower ho10 (keep_size (w := w) (g := g) (row := none) (by repeat (first | (with_reducible first | exact HK.out | apply KeepBut.set_ | apply keep_drewN | apply keep_drew | apply keep_alloc | refine keep_far ?_ GW175.out _) | exact HK.out)))); have n1_ := uD (IsS127.below (by repeat (first | (with_reducible first | exact HI0.out | apply IsS127.alloc | apply IsS127.drewN | apply IsS127.drew | apply IsS127.set_1 | apply IsS127.set_2 | refine IsS127.far ?_ NB0_175.out _) | exact HI0.out)) hb); have n2_ := uD (blk_below (g := gb175) (o := .cells #[.int .i64 0, .int .i64 0, .bool false, .slice none 0 0] 63 (0, 0)) (by (with_reducible repeat (first | refine uH ?_ _ | refine uJ ?_ | refine uG ?_ _)); exact BK175.out) hb); have n3_ := uD (KeepBut.trans (by repeat (first | (with_reducible first | exact HK.out | apply KeepBut.set_ | apply keep_drewN | apply keep_drew | apply keep_alloc | refine keep_far ?_ GW175.out _) | exact HK.out)) (KeepBut.of_below hb g none) (.inl rfl)); have n4_ := uD (uO (by repeat (first | (with_reducible first | exact HB.out | apply uL | apply uE | apply uK | refine uM ?_ (IsS127.ge HI0.out) | refine uM ?_ GE175.out) | exact HB.out)) hb); clear HI0; clear BK175; clear HK; clear HB; have HO181 := n0_; have HI0 := n1_; have BK175 := n2_; have HK := n3_; have HB := n4_; clear n0_ n1_ n2_ n3_ n4_; clear hb ho10; obtain ⟨Ao11, co11, eo11⟩ := Kd.R_slice HO181.out; subst eo11) | ((with_reducible refine gate_callee (f := 89) rfl ?_); refine goesL_ (some 12) rfl rfl Try.func89 (by kernel_rfl) rfl #[.pointer (some ⟨g, 0, none⟩), .slice Ao11 y179.length co11] rfl (by (try simp only [List.map_toArray, List.map_cons, List.map_nil]); first | done | rfl | (simp only [List.length_drop, List.length_take]; rfl)) ?_; (with_reducible refine (spec_l01PickInt.calls g s0_0 t177 t178 _ _ y179 t182 t183 t184 w0 _ ?side1 ?side2 ?side3 ?side4 ?side5 A3.out).mono ?_); (case side1 => repeat (first | (with_reducible first | exact HI0.out | apply IsS127.alloc | apply IsS127.drewN | apply IsS127.drew | apply IsS127.set_1 | apply IsS127.set_2 | refine IsS127.far ?_ NB0_175.out _) | exact HI0.out)); (case side2 => repeat (first | (with_reducible first | exact HB.out | apply uL | apply uE | apply uK | refine uM ?_ (IsS127.ge HI0.out) | refine uM ?_ GE175.out) | exact HB.out)); (case side3 => repeat (first | exact (Kd.R_reads' HO181.out).2.2 | (with_reducible refine Kd.C_alloc ?_ _) | (with_reducible refine Kd.C_drewN ?_ _) | (with_reducible refine Kd.C_drew ?_))); (case side4 => exact (Kd.R_reads' HO181.out).2.1); (case side5 => exact far_slice (IsS127.own_ne HI0.out HO181.out (by decide))); rintro e w12 ⟨rfl, hi, hb, hk⟩; refine ⟨_, rfl, ?_⟩; have n0_ := uD (KeepBut.blk hk (g' := gb175) (o := .cells #[.int .i64 0, .int .i64 0, .bool false, .slice none 0 0] 63 (0, 0)) (by (with_reducible repeat (first | refine uH ?_ _ | refine uJ ?_ | refine uG ?_ _)); exact BK175.out) NB175_0.out (by simp)); have n1_ := uD (uX (Kd.R_keep (IsS127.apart (show IsS127 w0 _ g s0_0 t177 t178 from by repeat (first | (with_reducible first | exact HI0.out | apply IsS127.alloc | apply IsS127.drewN | apply IsS127.drew | apply IsS127.set_1 | apply IsS127.set_2 | refine IsS127.far ?_ NB0_175.out _) | exact HI0.out)) (by (with_reducible repeat (first | apply uU | apply uS | apply uT)); exact HO181.out) (by decide)) hk (fun _ h => h.2)) (fun _ h => h.1)); have n2_ := uD (KeepBut.trans (by repeat (first | (with_reducible first | exact HK.out | apply KeepBut.set_ | apply keep_drewN | apply keep_drew | apply keep_alloc | refine keep_far ?_ GW175.out _) | exact HK.out)) hk (.inl rfl)); have n3_ := uD (hb); have n4_ := uD (hi); clear BK175; clear HO181; clear HK; clear HB; clear HI0; have BK175 := n0_; have HO181 := n1_; have HK := n2_; have HB := n3_; have HI0 := n4_; clear n0_ n1_ n2_ n3_ n4_; (try clear hb); (try clear hb2); (try clear hk); (try clear hi)) | ((with_reducible refine gate_callee (f := 88) rfl ?_); refine goesL_ (some 14) rfl rfl Try.func88 (by kernel_rfl) rfl #[.pointer (some ⟨g, 0, none⟩), .int .i64 4] rfl (by (try simp only [List.map_toArray, List.map_cons, List.map_nil]); first | done | rfl | (simp only [List.length_drop, List.length_take]; rfl)) ?_; (with_reducible refine (spec_l01Once.calls g s0_0 t183 t184 4 t185 t186 t187 w0 _ ?side1 ?side2 A4.out).mono ?_); (case side1 => repeat (first | (with_reducible first | exact HI0.out | apply IsS127.alloc | apply IsS127.drewN | apply IsS127.drew | apply IsS127.set_1 | apply IsS127.set_2 | refine IsS127.far ?_ NB0_175.out _) | exact HI0.out)); (case side2 => repeat (first | (with_reducible first | exact HB.out | apply uL | apply uE | apply uK | refine uM ?_ (IsS127.ge HI0.out) | refine uM ?_ GE175.out) | exact HB.out)); rintro e w13 ⟨rfl, hi, hb, hk⟩; refine ⟨_, rfl, ?_⟩; have n0_ := uD (KeepBut.blk hk (g' := gb175) (o := .cells #[.int .i64 0, .int .i64 0, .bool false, .slice none 0 0] 63 (0, 0)) (by (with_reducible repeat (first | refine uH ?_ _ | refine uJ ?_ | refine uG ?_ _)); exact BK175.out) NB175_0.out (by simp)); have n1_ := uD (uX (Kd.R_keep (IsS127.apart (show IsS127 w0 _ g s0_0 t183 t184 from by repeat (first | (with_reducible first | exact HI0.out | apply IsS127.alloc | apply IsS127.drewN | apply IsS127.drew | apply IsS127.set_1 | apply IsS127.set_2 | refine IsS127.far ?_ NB0_175.out _) | exact HI0.out)) (by (with_reducible repeat (first | apply uU | apply uS | apply uT)); exact HO181.out) (by decide)) hk (fun _ h => h.2)) (fun _ h => h.1)); have n2_ := uD (KeepBut.trans (by repeat (first | (with_reducible first | exact HK.out | apply KeepBut.set_ | apply keep_drewN | apply keep_drew | apply keep_alloc | refine keep_far ?_ GW175.out _) | exact HK.out)) hk (.inl rfl)); have n3_ := uD (hb); have n4_ := uD (hi); clear BK175; clear HO181; clear HK; clear HB; clear HI0; have BK175 := n0_; have HO181 := n1_; have HK := n2_; have HB := n3_; have HI0 := n4_; clear n0_ n1_ n2_ n3_ n4_; (try clear hb); (try clear hb2); (try clear hk); (try clear hi)) | ((with_reducible refine gate_dst (N := 3) rfl ?_); refine box_event ?hg (N := 3) ?hd (cs := #[.int .i64 0, .int .i64 0, .bool false, .slice none 0 0]) (t := 63) ?hr ?_; (case hd => rfl); (case hg => rfl); (case hr => first | (go_simp; done) | (go_simp; rfl)); intro gb188 hg w14 hbox hb; have n0_ := uD (Kd.R_below (by (with_reducible repeat (first | apply uU | apply uS | apply uT)); exact HO181.out) hb); have n1_ := uD (IsS127.below (by repeat (first | (with_reducible first | exact HI0.out | apply IsS127.alloc | apply IsS127.drewN | apply IsS127.drew | apply IsS127.set_1 | apply IsS127.set_2 | refine IsS127.far ?_ NB0_175.out _) | exact HI0.out)) hb); have n2_ := uD (blk_below (g := gb175) (o := .cells #[.int .i64 0, .int .i64 0, .bool false, .slice none 0 0] 63 (0, 0)) (by (with_reducible repeat (first | refine uH ?_ _ | refine uJ ?_ | refine uG ?_ _)); exact BK175.out) hb); have n3_ := uD (KeepBut.trans (by repeat (first | (with_reducible first | exact HK.out | apply KeepBut.set_ | apply keep_drewN | apply keep_drew | apply keep_alloc | refine keep_far ?_ GW175.out _) | exact HK.out)) (KeepBut.of_below hb g none) (.inl rfl)); have n4_ := uD (uO (by repeat (first | (with_reducible first | exact HB.out | apply uL | apply uE | apply uK | refine uM ?_ (IsS127.ge HI0.out) | refine uM ?_ GE175.out) | exact HB.out)) hb); have n5_ := uD (hbox); have n6_ := uD ((by rw [hg]; exact (keep_size (w := w) (g := g) (row := none) (by repeat (first | (with_reducible first | exact HK.out | apply KeepBut.set_ | apply keep_drewN | apply keep_drew | apply keep_alloc | refine keep_far ?_ GW175.out _) | exact HK.out))) : w.heap.size ≤ gb188)); have n7_ := uD ((Nat.le_trans HW0.out (by rw [hg]; exact (keep_size (w := w) (g := g) (row := none) (by repeat (first | (with_reducible first | exact HK.out | apply KeepBut.set_ | apply keep_drewN | apply keep_drew | apply keep_alloc | refine keep_far ?_ GW175.out _) | exact HK.out))) : w.heap.size ≤ gb188) : w0.heap.size ≤ gb188)); have n8_ := uD ((by rw [hg]; exact Nat.ne_of_lt (blk_lt (g := gb175) (o := .cells #[.int .i64 0, .int .i64 0, .bool false, .slice none 0 0] 63 (0, 0)) (by (with_reducible repeat (first | refine uH ?_ _ | refine uJ ?_ | refine uG ?_ _)); exact BK175.out)) : gb175 ≠ gb188)); have n9_ := uD ((by rw [hg]; exact Nat.ne_of_gt (blk_lt (g := gb175) (o := .cells #[.int .i64 0, .int .i64 0, .bool false, .slice none 0 0] 63 (0, 0)) (by (with_reducible repeat (first | refine uH ?_ _ | refine uJ ?_ | refine uG ?_ _)); exact BK175.out)) : gb188 ≠ gb175)); have n10_ := uD ((by rw [hg]; exact Nat.ne_of_lt (IsS127.lt (show IsS127 w0 _ g s0_0 t186 t187 from by repeat (first | (with_reducible first | exact HI0.out | apply IsS127.alloc | apply IsS127.drewN | apply IsS127.drew | apply IsS127.set_1 | apply IsS127.set_2 | refine IsS127.far ?_ NB0_175.out _) | exact HI0.out))) : g ≠ gb188)); have n11_ := uD ((by rw [hg]; exact Nat.ne_of_gt (IsS127.lt (show IsS127 w0 _ g s0_0 t186 t187 from by repeat (first | (with_reducible first | exact HI0.out | apply IsS127.alloc | apply IsS127.drewN | apply IsS127.drew | apply IsS127.set_1 | apply IsS127.set_2 | refine IsS127.far ?_ NB0_175.out _) | exact HI0.out))) : gb188 ≠ g)); clear HO181; clear HI0; clear BK175; clear HK; clear HB; have HO181 := n0_; have HI0 := n1_; have BK175 := n2_; have HK := n3_; have HB := n4_; have BK188 := n5_; have GW188 := n6_; have GE188 := n7_; have NB175_188 := n8_; have NB188_175 := n9_; have NB0_188 := n10_; have NB188_0 := n11_; clear n0_ n1_ n2_ n3_ n4_ n5_ n6_ n7_ n8_ n9_ n10_ n11_; clear hb hbox hg; have hnb15 := NB188_175.out; have hnc15 := NB175_188.out; have hnb16 := NB188_0.out; have hnc16 := NB0_188.out; have hcz17_0 : w14.cell? ⟨gb188, 0, none⟩ = some (.int .i64 0) := (uF BK188.out 0).trans rfl; have hcz17_1 : w14.cell? ⟨gb188, 1, none⟩ = some (.int .i64 0) := (uF BK188.out 1).trans rfl; have hcz17_2 : w14.cell? ⟨gb188, 2, none⟩ = some (.bool false) := (uF BK188.out 2).trans rfl; have hcz17_3 : w14.cell? ⟨gb188, 3, none⟩ = some (.slice none 0 0) := (uF BK188.out 3).trans rfl; have hfz17_0 := uI BK188.out 0; have hfz17_1 := uI BK188.out 1; have hfz17_2 := uI BK188.out 2; have hfz17_3 := uI BK188.out 3))
 have n0_ : Aside0 (Kd.R (Kd.int .i64) 3 ((((w14.setCell ⟨gb188, 0, none⟩ (.int .i64 (wrap64 (5 + t176)))).setCell ⟨gb188, 1, none⟩ (.int .i64 t182)).setCell ⟨gb188, 2, none⟩ (.bool t185)).setCell ⟨gb188, 3, none⟩ (.slice none 0 0)) w.heap.size (fun _ => True) (.slice Ao11 y179.length co11) y179) := ⟨by (with_reducible repeat (first | apply uU | apply uS | apply uT)); exact uX (uV (p := ⟨gb188, 3, none⟩) (uV (p := ⟨gb188, 2, none⟩) (uV (p := ⟨gb188, 1, none⟩) (uV (p := ⟨gb188, 0, none⟩) (uW HO181.out BK188.out (by decide)) (fun _ hk => hk.2) (.int .i64 (wrap64 (5 + t176)))) (fun _ hk => hk.2) (.int .i64 t182)) (fun _ hk => hk.2) (.bool t185)) (fun _ hk => hk.2) (.slice none 0 0)) (fun _ hk => trivial)⟩
 have n1_ : Aside0 (((((w14.setCell ⟨gb188, 0, none⟩ (.int .i64 (wrap64 (5 + t176)))).setCell ⟨gb188, 1, none⟩ (.int .i64 t182)).setCell ⟨gb188, 2, none⟩ (.bool t185)).setCell ⟨gb188, 3, none⟩ (.slice none 0 0)).heap[gb175]? = some (.cells #[.int .i64 0, .int .i64 0, .bool false, .slice none 0 0] 63 (0, 0))) := ⟨by (with_reducible repeat (first | refine uH ?_ _ | refine uJ ?_ | refine uG ?_ _)); refine uQ ?_ NB175_188.out _; (with_reducible repeat (first | refine uH ?_ _ | refine uJ ?_ | refine uG ?_ _)); refine uQ ?_ NB175_188.out _; (with_reducible repeat (first | refine uH ?_ _ | refine uJ ?_ | refine uG ?_ _)); refine uQ ?_ NB175_188.out _; (with_reducible repeat (first | refine uH ?_ _ | refine uJ ?_ | refine uG ?_ _)); refine uQ ?_ NB175_188.out _; (with_reducible repeat (first | refine uH ?_ _ | refine uJ ?_ | refine uG ?_ _)); exact BK175.out⟩
 have n2_ : Aside0 (((((w14.setCell ⟨gb188, 0, none⟩ (.int .i64 (wrap64 (5 + t176)))).setCell ⟨gb188, 1, none⟩ (.int .i64 t182)).setCell ⟨gb188, 2, none⟩ (.bool t185)).setCell ⟨gb188, 3, none⟩ (.slice none 0 0)).heap[gb188]? = some (.cells #[.int .i64 (wrap64 (5 + t176)), .int .i64 t182, .bool t185, .slice none 0 0] 63 (0, 0))) := ⟨by (with_reducible repeat (first | refine uH ?_ _ | refine uJ ?_ | refine uG ?_ _)); refine uP (cs := #[.int .i64 (wrap64 (5 + t176)), .int .i64 t182, .bool t185, .slice none 0 0]) ?_ 3 _ rfl; (with_reducible repeat (first | refine uH ?_ _ | refine uJ ?_ | refine uG ?_ _)); refine uP (cs := #[.int .i64 (wrap64 (5 + t176)), .int .i64 t182, .bool false, .slice none 0 0]) ?_ 2 _ rfl; (with_reducible repeat (first | refine uH ?_ _ | refine uJ ?_ | refine uG ?_ _)); refine uP (cs := #[.int .i64 (wrap64 (5 + t176)), .int .i64 0, .bool false, .slice none 0 0]) ?_ 1 _ rfl; (with_reducible repeat (first | refine uH ?_ _ | refine uJ ?_ | refine uG ?_ _)); refine uP (cs := #[.int .i64 0, .int .i64 0, .bool false, .slice none 0 0]) ?_ 0 _ rfl; (with_reducible repeat (first | refine uH ?_ _ | refine uJ ?_ | refine uG ?_ _)); exact BK188.out⟩
 have n3_ : Aside0 (IsS127 w0 ((((w14.setCell ⟨gb188, 0, none⟩ (.int .i64 (wrap64 (5 + t176)))).setCell ⟨gb188, 1, none⟩ (.int .i64 t182)).setCell ⟨gb188, 2, none⟩ (.bool t185)).setCell ⟨gb188, 3, none⟩ (.slice none 0 0)) g s0_0 t186 t187) := ⟨by repeat (first | (with_reducible first | exact HI0.out | apply IsS127.alloc | apply IsS127.drewN | apply IsS127.drew | apply IsS127.set_1 | apply IsS127.set_2 | refine IsS127.far ?_ NB0_175.out _ | refine IsS127.far ?_ NB0_188.out _) | exact HI0.out)⟩
 have n4_ : Aside0 (KeepBut w ((((w14.setCell ⟨gb188, 0, none⟩ (.int .i64 (wrap64 (5 + t176)))).setCell ⟨gb188, 1, none⟩ (.int .i64 t182)).setCell ⟨gb188, 2, none⟩ (.bool t185)).setCell ⟨gb188, 3, none⟩ (.slice none 0 0)) g none) := ⟨by repeat (first | (with_reducible first | exact HK.out | apply KeepBut.set_ | apply keep_drewN | apply keep_drew | apply keep_alloc | refine keep_far ?_ GW175.out _ | refine keep_far ?_ GW188.out _) | exact HK.out)⟩
 have n5_ : Aside0 (Below w0.heap.size w0 ((((w14.setCell ⟨gb188, 0, none⟩ (.int .i64 (wrap64 (5 + t176)))).setCell ⟨gb188, 1, none⟩ (.int .i64 t182)).setCell ⟨gb188, 2, none⟩ (.bool t185)).setCell ⟨gb188, 3, none⟩ (.slice none 0 0))) := ⟨by repeat (first | (with_reducible first | exact HB.out | apply uL | apply uE | apply uK | refine uM ?_ (IsS127.ge HI0.out) | refine uM ?_ GE175.out | refine uM ?_ GE188.out) | exact HB.out)⟩
 (try clear HO181)
 (try clear BK175)
 (try clear BK188)
 (try clear HI0)
 (try clear HK)
 (try clear HB)
 generalize ((((w14.setCell ⟨gb188, 0, none⟩ (.int .i64 (wrap64 (5 + t176)))).setCell ⟨gb188, 1, none⟩ (.int .i64 t182)).setCell ⟨gb188, 2, none⟩ (.bool t185)).setCell ⟨gb188, 3, none⟩ (.slice none 0 0)) = w18 at n0_ n1_ n2_ n3_ n4_ n5_ ⊢
 have HO181 := n0_
 have BK175 := n1_
 have BK188 := n2_
 have HI0 := n3_
 have HK := n4_
 have HB := n5_
 clear n0_ n1_ n2_ n3_ n4_ n5_
 have n0_ := uD (uT HO181.out)
 have n1_ := uD (uJ BK175.out)
 have n2_ := uD (uJ BK188.out)
 have n3_ := uD (IsS127.drew HI0.out)
 have n4_ := uD (keep_drew HK.out)
 have n5_ := uD (uK HB.out)
 clear HO181
 clear BK175
 clear BK188
 clear HI0
 clear HK
 clear HB
 have HO181 := n0_
 have BK175 := n1_
 have BK188 := n2_
 have HI0 := n3_
 have HK := n4_
 have HB := n5_
 clear n0_ n1_ n2_ n3_ n4_ n5_
 refine start_ (n := 7) (S := fun w' => w'.cell? ⟨gb188, 0, none⟩ = some (.int .i64 (wrap64 (5 + t176))) ∧ w'.cell? ⟨gb188, 1, none⟩ = some (.int .i64 t182) ∧ w'.cell? ⟨gb188, 2, none⟩ = some (.bool t185) ∧ w'.cell? ⟨gb188, 3, none⟩ = some (.slice none 0 0)) (ds := []) #[false, false, false, false, false, false, false] (by kernel_rfl) rfl rfl ⟨(uF BK188.out 0).trans rfl, (uF BK188.out 1).trans rfl, (uF BK188.out 2).trans rfl, (uF BK188.out 3).trans rfl⟩ (fun hHeld => ?_)
 generalize w18.drew = w19 at HO181 BK175 BK188 HI0 HK HB hHeld ⊢
 refine ub (i := 0) (N := some 16) (v := ?_) (a' := ?_) #[true, false, false, false, false, false, false] rfl rfl (by kernel_rfl) (fun _ _ _ h => h) (Or.inl ⟨by rfl, ?_⟩) ?_ ?_
 rotate_left
 ·intro w'
  go_simp
  with_reducible rfl
 rotate_left
 ·simp only [uc, uA, uB, uC, uZ, ua]
  rfl
 refine ub (i := 2) (N := some 18) (v := ?_) (a' := ?_) #[true, false, true, false, false, false, false] rfl rfl (by kernel_rfl) (fun _ _ _ h => h) (Or.inl ⟨by rfl, ?_⟩) ?_ ?_
 rotate_left
 ·intro w'
  go_simp
  with_reducible rfl
 rotate_left
 ·simp only [uc, uA, uB, uC, uZ, ua]
  rfl
 refine take_ (i := 1) (N := some 17) (v := ?_) (a' := ?_) #[true, true, true, false, false, false, false] rfl rfl (by kernel_rfl) (fun _ _ _ h => h) (Or.inl ⟨by rfl, ?_⟩) hHeld ?_ ?_
 rotate_left
 ·rintro w' ⟨s0, s1, s2, s3⟩
  go_simp
  with_reducible rfl
 rotate_left
 ·simp only [uc, uA, uB, uC, uZ, ua]
  rfl
 refine one_ (i := 3) (N := some 19) #[true, true, true, true, false, false, false] rfl rfl (by kernel_rfl) (by decide) (fun K hK => ?_)
 refine Kd.R_lit_step (Kd.int .i64) _ 3 ?hg (N := 19) ?hd (xs := ([0, 0, 1, 3, 10] : List Int)) (inner := [.int .i64 0, .int .i64 0, .int .i64 1, .int .i64 3, .int .i64 10]) (ok := fun _ => True) (okp := fun _ => True) ?hr ?hp (fun _ hk => hk) trivial (Below.refl _ _) (Nat.le_refl _) (by simp) ?_; (case hd => rfl); (case hg => rfl); (case hr => first | (go_simp; done) | (go_simp; rfl)); (case hp => exact (Reps.one (show Kd.M (Kd.int .i64) _ _ _ 0 [.int .i64 0] from rfl) (Reps.one (show Kd.M (Kd.int .i64) _ _ _ 0 [.int .i64 0] from rfl) (Reps.one (show Kd.M (Kd.int .i64) _ _ _ 1 [.int .i64 1] from rfl) (Reps.one (show Kd.M (Kd.int .i64) _ _ _ 3 [.int .i64 3] from rfl) (Reps.one (show Kd.M (Kd.int .i64) _ _ _ 10 [.int .i64 10] from rfl) (Reps.none _ _)))))))
 intro v190 w20 ho21 hb hg_ hnew_
 clear hg_ hnew_
 (first | rw [← Ny189.out] at ho21 | (simp only [Int.reduceToNat] at ho21; rw [← Ny189.out] at ho21))
 have n0_ := uD (Kd.R_elder' (by (with_reducible repeat (first | apply uU | apply uS | apply uT)); exact HO181.out) (Kd.R_base ho21) hb)
 have n1_ := uD (Kd.R_lower (Kd.R_new' ho21 (Kd.R_lt (by (with_reducible repeat (first | apply uU | apply uS | apply uT)); exact HO181.out))) (keep_size (w := w) (g := g) (row := none) (by repeat (first | (with_reducible first | exact HK.out | apply KeepBut.set_ | apply keep_drewN | apply keep_drew | apply keep_alloc | refine keep_far ?_ GW175.out _ | refine keep_far ?_ GW188.out _) | exact HK.out))))
 have n2_ := uD (IsS127.below (by repeat (first | (with_reducible first | exact HI0.out | apply IsS127.alloc | apply IsS127.drewN | apply IsS127.drew | apply IsS127.set_1 | apply IsS127.set_2 | refine IsS127.far ?_ NB0_175.out _ | refine IsS127.far ?_ NB0_188.out _) | exact HI0.out)) hb)
 have n3_ := uD (blk_below (g := gb175) (o := .cells #[.int .i64 0, .int .i64 0, .bool false, .slice none 0 0] 63 (0, 0)) (by (with_reducible repeat (first | refine uH ?_ _ | refine uJ ?_ | refine uG ?_ _)); exact BK175.out) hb)
 have n4_ := uD (blk_below (g := gb188) (o := .cells #[.int .i64 (wrap64 (5 + t176)), .int .i64 t182, .bool t185, .slice none 0 0] 63 (0, 0)) (by (with_reducible repeat (first | refine uH ?_ _ | refine uJ ?_ | refine uG ?_ _)); exact BK188.out) hb)
 have n5_ := uD (KeepBut.trans (by repeat (first | (with_reducible first | exact HK.out | apply KeepBut.set_ | apply keep_drewN | apply keep_drew | apply keep_alloc | refine keep_far ?_ GW175.out _ | refine keep_far ?_ GW188.out _) | exact HK.out)) (KeepBut.of_below hb g none) (.inl rfl))
 have n6_ := uD (uO (by repeat (first | (with_reducible first | exact HB.out | apply uL | apply uE | apply uK | refine uM ?_ (IsS127.ge HI0.out) | refine uM ?_ GE175.out | refine uM ?_ GE188.out) | exact HB.out)) hb)
 clear HO181
 clear HI0
 clear BK175
 clear BK188
 clear HK
 clear HB
 have HO181 := n0_
 have HO191 := n1_
 have HI0 := n2_
 have BK175 := n3_
 have BK188 := n4_
 have HK := n5_
 have HB := n6_
 clear n0_ n1_ n2_ n3_ n4_ n5_ n6_
 clear hb ho21
 obtain ⟨Ao22, co22, eo22⟩ := Kd.R_slice HO191.out
 (first | subst eo22 | (injection eo22 with f1_ f2_ f3_; have f4_ := f1_.symm; have f5_ := f3_.symm; clear f1_ f2_ f3_; subst f4_; subst f5_))
 refine hK.out _ _ ⟨(uF BK188.out 0).trans rfl, (uF BK188.out 1).trans rfl, (uF BK188.out 2).trans rfl, (uF BK188.out 3).trans rfl⟩ (fun hHeld => ?_)
 clear hK K
 refine norm_ (a' := ?_) ?_ ?_
 rotate_left
 ·show uc _ (some 19) _ = _
  simp only [uc, uA, uB, uC, uZ, ua]
  rfl
 refine one_ (i := 4) (N := some 20) #[true, true, true, true, true, false, false] rfl rfl (by kernel_rfl) (by decide) (fun K hK => ?_)
 refine goes_ Try.func89 (by kernel_rfl) rfl #[.pointer (some ⟨g, 0, none⟩), .slice Ao22 y189.length co22] (by rfl) rfl rfl (by (try simp only [List.map_toArray, List.map_cons, List.map_nil]); first | done | rfl | (simp only [List.length_drop, List.length_take]; rfl)) ?_
 with_reducible refine (spec_l01PickInt.calls g s0_0 t186 t187 _ _ y189 t192 t193 t194 w0 _ ?side1 ?side2 ?side3 ?side4 ?side5 A5.out).mono ?_
 (case side1 => repeat (first | (with_reducible first | exact HI0.out | apply IsS127.alloc | apply IsS127.drewN | apply IsS127.drew | apply IsS127.set_1 | apply IsS127.set_2 | refine IsS127.far ?_ NB0_175.out _ | refine IsS127.far ?_ NB0_188.out _) | exact HI0.out))
 (case side2 => repeat (first | (with_reducible first | exact HB.out | apply uL | apply uE | apply uK | refine uM ?_ (IsS127.ge HI0.out) | refine uM ?_ GE175.out | refine uM ?_ GE188.out) | exact HB.out))
 (case side3 => repeat (first | exact (Kd.R_reads' HO191.out).2.2 | (with_reducible refine Kd.C_alloc ?_ _) | (with_reducible refine Kd.C_drewN ?_ _) | (with_reducible refine Kd.C_drew ?_)))
 (case side4 => exact (Kd.R_reads' HO191.out).2.1)
 (case side5 => exact far_slice (IsS127.own_ne HI0.out HO191.out (by decide)))
 rintro e w23 ⟨rfl, hi, hb, hk⟩
 refine ⟨_, rfl, ?_⟩
 have n0_ := uD (KeepBut.blk hk (g' := gb175) (o := .cells #[.int .i64 0, .int .i64 0, .bool false, .slice none 0 0] 63 (0, 0)) (by (with_reducible repeat (first | refine uH ?_ _ | refine uJ ?_ | refine uG ?_ _)); exact BK175.out) NB175_0.out (by simp))
 have n1_ := uD (uX (Kd.R_keep (IsS127.apart (show IsS127 w0 _ g s0_0 t186 t187 from by repeat (first | (with_reducible first | exact HI0.out | apply IsS127.alloc | apply IsS127.drewN | apply IsS127.drew | apply IsS127.set_1 | apply IsS127.set_2 | refine IsS127.far ?_ NB0_175.out _ | refine IsS127.far ?_ NB0_188.out _) | exact HI0.out)) (by (with_reducible repeat (first | apply uU | apply uS | apply uT)); exact HO181.out) (by decide)) hk (fun _ h => h.2)) (fun _ h => h.1))
 have n2_ := uD (KeepBut.blk hk (g' := gb188) (o := .cells #[.int .i64 (wrap64 (5 + t176)), .int .i64 t182, .bool t185, .slice none 0 0] 63 (0, 0)) (by (with_reducible repeat (first | refine uH ?_ _ | refine uJ ?_ | refine uG ?_ _)); exact BK188.out) NB188_0.out (by simp))
 have n3_ := uD (uX (Kd.R_keep (IsS127.apart (show IsS127 w0 _ g s0_0 t186 t187 from by repeat (first | (with_reducible first | exact HI0.out | apply IsS127.alloc | apply IsS127.drewN | apply IsS127.drew | apply IsS127.set_1 | apply IsS127.set_2 | refine IsS127.far ?_ NB0_175.out _ | refine IsS127.far ?_ NB0_188.out _) | exact HI0.out)) (by (with_reducible repeat (first | apply uU | apply uS | apply uT)); exact HO191.out) (by decide)) hk (fun _ h => h.2)) (fun _ h => h.1))
 have n4_ := uD (KeepBut.trans (by repeat (first | (with_reducible first | exact HK.out | apply KeepBut.set_ | apply keep_drewN | apply keep_drew | apply keep_alloc | refine keep_far ?_ GW175.out _ | refine keep_far ?_ GW188.out _) | exact HK.out)) hk (.inl rfl))
 have n5_ := uD (hb)
 have n6_ := uD (hi)
 clear BK175
 clear HO181
 clear BK188
 clear HO191
 clear HK
 clear HB
 clear HI0
 have BK175 := n0_
 have HO181 := n1_
 have BK188 := n2_
 have HO191 := n3_
 have HK := n4_
 have HB := n5_
 have HI0 := n6_
 clear n0_ n1_ n2_ n3_ n4_ n5_ n6_
 (try clear hb)
 (try clear hb2)
 (try clear hk)
 (try clear hi)
 refine hK.out _ _ ⟨(uF BK188.out 0).trans rfl, (uF BK188.out 1).trans rfl, (uF BK188.out 2).trans rfl, (uF BK188.out 3).trans rfl⟩ (fun hHeld => ?_)
 clear hK K
 refine norm_ (a' := ?_) ?_ ?_
 rotate_left
 ·show uc _ (some 20) _ = _
  simp only [uc, uA, uB, uC, uZ, ua]
  rfl
 refine ub (i := 5) (N := some 21) (v := ?_) (a' := ?_) #[true, true, true, true, true, true, false] rfl rfl (by kernel_rfl) (fun _ _ _ h => h) (Or.inl ⟨by rfl, ?_⟩) ?_ ?_
 rotate_left
 ·intro w'
  go_simp
  with_reducible rfl
 rotate_left
 ·simp only [uc, uA, uB, uC, uZ, ua]
  rfl
 refine ub (i := 6) (N := some 4) (v := ?_) (a' := ?_) #[true, true, true, true, true, true, true] rfl rfl (by kernel_rfl) (fun _ _ _ h => h) (Or.inl ⟨by rfl, ?_⟩) ?_ ?_
 rotate_left
 ·intro w'
  go_simp
  with_reducible rfl
 rotate_left
 ·simp only [uc, uA, uB, uC, uZ, ua]
  rfl
 refine done_ (by kernel_rfl) ?_
 try go_wp2_with (first | ((with_reducible refine gate_callee (f := 83) rfl ?_); refine goesL_ (some 23) rfl rfl Try.func83 (by kernel_rfl) rfl #[.pointer (some ⟨g, 0, none⟩), .int .i64 7] rfl (by (try simp only [List.map_toArray, List.map_cons, List.map_nil]); first | done | rfl | (simp only [List.length_drop, List.length_take]; rfl)) ?_; (with_reducible refine (spec_l01Below.calls g s0_0 t193 t194 7 t195 t196 t197 w0 _ ?side1 ?side2 A6.out).mono ?_); (case side1 => repeat (first | (with_reducible first | exact HI0.out | apply IsS127.alloc | apply IsS127.drewN | apply IsS127.drew | apply IsS127.set_1 | apply IsS127.set_2 | refine IsS127.far ?_ NB0_175.out _ | refine IsS127.far ?_ NB0_188.out _) | exact HI0.out)); (case side2 => repeat (first | (with_reducible first | exact HB.out | apply uL | apply uE | apply uK | refine uM ?_ (IsS127.ge HI0.out) | refine uM ?_ GE175.out | refine uM ?_ GE188.out) | exact HB.out)); rintro e w24 ⟨rfl, hi, hb, hk⟩; refine ⟨_, rfl, ?_⟩; have n0_ := uD (KeepBut.blk hk (g' := gb175) (o := .cells #[.int .i64 0, .int .i64 0, .bool false, .slice none 0 0] 63 (0, 0)) (by (with_reducible repeat (first | refine uH ?_ _ | refine uJ ?_ | refine uG ?_ _)); exact BK175.out) NB175_0.out (by simp)); have n1_ := uD (uX (Kd.R_keep (IsS127.apart (show IsS127 w0 _ g s0_0 t193 t194 from by repeat (first | (with_reducible first | exact HI0.out | apply IsS127.alloc | apply IsS127.drewN | apply IsS127.drew | apply IsS127.set_1 | apply IsS127.set_2 | refine IsS127.far ?_ NB0_175.out _ | refine IsS127.far ?_ NB0_188.out _) | exact HI0.out)) (by (with_reducible repeat (first | apply uU | apply uS | apply uT)); exact HO181.out) (by decide)) hk (fun _ h => h.2)) (fun _ h => h.1)); have n2_ := uD (KeepBut.blk hk (g' := gb188) (o := .cells #[.int .i64 (wrap64 (5 + t176)), .int .i64 t182, .bool t185, .slice none 0 0] 63 (0, 0)) (by (with_reducible repeat (first | refine uH ?_ _ | refine uJ ?_ | refine uG ?_ _)); exact BK188.out) NB188_0.out (by simp)); have n3_ := uD (uX (Kd.R_keep (IsS127.apart (show IsS127 w0 _ g s0_0 t193 t194 from by repeat (first | (with_reducible first | exact HI0.out | apply IsS127.alloc | apply IsS127.drewN | apply IsS127.drew | apply IsS127.set_1 | apply IsS127.set_2 | refine IsS127.far ?_ NB0_175.out _ | refine IsS127.far ?_ NB0_188.out _) | exact HI0.out)) (by (with_reducible repeat (first | apply uU | apply uS | apply uT)); exact HO191.out) (by decide)) hk (fun _ h => h.2)) (fun _ h => h.1)); have n4_ := uD (KeepBut.trans (by repeat (first | (with_reducible first | exact HK.out | apply KeepBut.set_ | apply keep_drewN | apply keep_drew | apply keep_alloc | refine keep_far ?_ GW175.out _ | refine keep_far ?_ GW188.out _) | exact HK.out)) hk (.inl rfl)); have n5_ := uD (hb); have n6_ := uD (hi); clear BK175; clear HO181; clear BK188; clear HO191; clear HK; clear HB; clear HI0; have BK175 := n0_; have HO181 := n1_; have BK188 := n2_; have HO191 := n3_; have HK := n4_; have HB := n5_; have HI0 := n6_; clear n0_ n1_ n2_ n3_ n4_ n5_ n6_; (try clear hb); (try clear hb2); (try clear hk); (try clear hi)))
 go_loopg [4, 5] k (fun kq v4 v5 w' => ∃ (x4_1 : Int) (x5_1 : Int) (x1001_1 : Int) (x1002_1 : Int) (x189003_1 : List (S74)) (u189003 : Value), v4 = .int .i64 x4_1 ∧ v5 = .int .i64 x5_1 ∧ Aside0 (spec_l02Belt.l0 kq x4_1 x5_1 s0_0 x1001_1 x1002_1 (wrap64 (5 + t176)) t182 t185 x189003_1 = some (r1, r2, r3, r4, r5, r6)) ∧ Aside0 (kq ≤ k) ∧ Aside0 (Kd.R k74 74 w' w.heap.size (fun _ => True) u189003 x189003_1) ∧ Aside0 (w'.heap[gb175]? = some (.cells #[.int .i64 0, .int .i64 0, .bool false, (.slice none 0 0)] 63 (0, 0))) ∧ Aside0 (w'.heap[gb188]? = some (.cells #[.int .i64 (wrap64 (5 + t176)), .int .i64 t182, .bool t185, u189003] 63 (0, 0))) ∧ Aside0 (IsS127 w0 w' g s0_0 x1001_1 x1002_1) ∧ Aside0 (KeepBut w w' g none) ∧ Aside0 (Below w0.heap.size w0 w'))
 case atStart => exact ⟨(wrap64 ((wrap64 (5 + t176)) - t192)), (t195), (t196), (t197), (([] : List (S74))), (.slice none 0 0), (by first | rfl | (simp; done) | (simp [*]; done)), (by first | rfl | (simp; done) | (simp [*]; done)), H', ⟨Nat.le_refl _⟩, ⟨by first | exact Kd.R_nil _ _ _ _ _ | exact Kd.N_nil _ _ _ _ _ | exact Kd.V_nil _ _ _ _ _ | exact Kd.Q_nil _ _ _ _ _ | exact Kd.S_nil _ _ _ _ _⟩, ⟨by (with_reducible repeat (first | refine uH ?_ _ | refine uJ ?_ | refine uG ?_ _)); exact BK175.out⟩, ⟨by (with_reducible repeat (first | refine uH ?_ _ | refine uJ ?_ | refine uG ?_ _)); exact BK188.out⟩, ⟨by repeat (first | (with_reducible first | exact HI0.out | apply IsS127.alloc | apply IsS127.drewN | apply IsS127.drew | apply IsS127.set_1 | apply IsS127.set_2 | refine IsS127.far ?_ NB0_175.out _ | refine IsS127.far ?_ NB0_188.out _) | exact HI0.out)⟩, ⟨by repeat (first | (with_reducible first | exact HK.out | apply KeepBut.set_ | apply keep_drewN | apply keep_drew | apply keep_alloc | refine keep_far ?_ GW175.out _ | refine keep_far ?_ GW188.out _) | exact HK.out)⟩, ⟨by repeat (first | (with_reducible first | exact HB.out | apply uL | apply uE | apply uK | refine uM ?_ (IsS127.ge HI0.out) | refine uM ?_ GE175.out | refine uM ?_ GE188.out) | exact HB.out)⟩⟩
 case round =>
  clear H'
  try clear c1
  try clear p2
  try clear p6
  try clear c8
  try clear c15
  try clear c16
  try clear hcz17_0
  try clear hcz17_1
  try clear hcz17_2
  try clear hcz17_3
  try clear hfz17_0
  try clear hfz17_1
  try clear hfz17_2
  try clear hfz17_3
  obtain ⟨x4_1, x5_1, x1001_1, x1002_1, x189003_1, u189003, rfl, rfl, HA, HK1, HO_189003, BK175, BK188, HI0, HK, HB⟩ := hrel
  cases gk with
  | zero => exact absurd HA.out (by simp [spec_l02Belt.l0])
  | succ k1 =>
   have H := HA.out
   clear HA
   simp only [spec_l02Belt.l0] at H
   by_cases c25 : x5_1 > 0
   ·rw [if_pos c25] at H
    have c25b0 : decide (0 < x5_1) = true := decide_eq_true c25
    clear c25
    replace H := Option.bind_eq_some_iff.mp H
    obtain ⟨⟨t198, t199, t200⟩, A260, H⟩ := H
    replace H : (if x4_1 < (wrap64 (1 + t198)) then (some ((wrap64 (5 + t176)), t182, t185, x189003_1, t199, t200)) else ((spec_l01Below.f s0_0 t199 t200 9).bind fun bt201 => (if x189003_1.length < 5864062014805 then ((spec_l01PickInt.f s0_0 bt201.2.1 bt201.2.2 (([0, 0, 1, 2, 6] : List Int))).bind fun bt210 => (spec_l02Belt.l0 k1 (wrap64 ((wrap64 ((wrap64 (x4_1 - (wrap64 (1 + t198)))) - t182)) - bt210.1)) (wrap64 (x5_1 - 1)) s0_0 bt210.2.1 bt210.2.2 (wrap64 (5 + t176)) t182 t185 (x189003_1 ++ [(⟨wrap64 ((wrap64 ((wrap64 (10 * (x189003_1.length : Int))) + 1)) + bt201.1), x4_1, wrap64 (1 + t198)⟩ : S74)]))) else (none)))) = some (r1, r2, r3, r4, r5, r6) := H
    have A26 := uD A260
    clear A260
    by_cases c27 : x4_1 < (wrap64 (1 + t198))
    ·rw [if_pos c27] at H
     have c27b0 : decide (x4_1 < (wrap64 (1 + t198))) = true := decide_eq_true c27
     clear c27
     simp only [Option.some.injEq, Prod.mk.injEq] at H
     obtain ⟨rfl, rfl, rfl, rfl, rfl, rfl⟩ := H
     go_wp2_with (first | ((with_reducible refine gate_callee (f := 83) rfl ?_); refine goesL_ (some 29) rfl rfl Try.func83 (by kernel_rfl) rfl #[.pointer (some ⟨g, 0, none⟩), .int .i64 9] rfl (by (try simp only [List.map_toArray, List.map_cons, List.map_nil]); first | done | rfl | (simp only [List.length_drop, List.length_take]; rfl)) ?_; (with_reducible refine (spec_l01Below.calls g s0_0 x1001_1 x1002_1 9 t198 t199 t200 w0 _ ?side1 ?side2 A26.out).mono ?_); (case side1 => repeat (first | (with_reducible first | exact HI0.out | apply IsS127.alloc | apply IsS127.drewN | apply IsS127.drew | apply IsS127.set_1 | apply IsS127.set_2 | refine IsS127.far ?_ NB0_175.out _ | refine IsS127.far ?_ NB0_188.out _) | exact HI0.out)); (case side2 => repeat (first | (with_reducible first | exact HB.out | apply uL | apply uE | apply uK | refine uM ?_ (IsS127.ge HI0.out) | refine uM ?_ GE175.out | refine uM ?_ GE188.out) | exact HB.out)); rintro e w28 ⟨rfl, hi, hb, hk⟩; refine ⟨_, rfl, ?_⟩; have n0_ := uD (uX (Kd.R_keep (IsS127.apart (show IsS127 w0 _ g s0_0 x1001_1 x1002_1 from by repeat (first | (with_reducible first | exact HI0.out | apply IsS127.alloc | apply IsS127.drewN | apply IsS127.drew | apply IsS127.set_1 | apply IsS127.set_2 | refine IsS127.far ?_ NB0_175.out _ | refine IsS127.far ?_ NB0_188.out _) | exact HI0.out)) (by (with_reducible repeat (first | apply uU | apply uS | apply uT)); exact HO_189003.out) (by decide)) hk (fun _ h => h.2)) (fun _ h => h.1)); have n1_ := uD (KeepBut.blk hk (g' := gb175) (o := .cells #[.int .i64 0, .int .i64 0, .bool false, .slice none 0 0] 63 (0, 0)) (by (with_reducible repeat (first | refine uH ?_ _ | refine uJ ?_ | refine uG ?_ _)); exact BK175.out) NB175_0.out (by simp)); have n2_ := uD (KeepBut.blk hk (g' := gb188) (o := .cells #[.int .i64 (wrap64 (5 + t176)), .int .i64 t182, .bool t185, u189003] 63 (0, 0)) (by (with_reducible repeat (first | refine uH ?_ _ | refine uJ ?_ | refine uG ?_ _)); exact BK188.out) NB188_0.out (by simp)); have n3_ := uD (KeepBut.trans (by repeat (first | (with_reducible first | exact HK.out | apply KeepBut.set_ | apply keep_drewN | apply keep_drew | apply keep_alloc | refine keep_far ?_ GW175.out _ | refine keep_far ?_ GW188.out _) | exact HK.out)) hk (.inl rfl)); have n4_ := uD (hb); have n5_ := uD (hi); clear HO_189003; clear BK175; clear BK188; clear HK; clear HB; clear HI0; have HO_189003 := n0_; have BK175 := n1_; have BK188 := n2_; have HK := n3_; have HB := n4_; have HI0 := n5_; clear n0_ n1_ n2_ n3_ n4_ n5_; (try clear hb); (try clear hb2); (try clear hk); (try clear hi); have hnb29 := NB188_175.out; have hnc29 := NB175_188.out; have hnb30 := NB188_0.out; have hnc30 := NB0_188.out; have hcz31_0 : w28.cell? ⟨gb188, 0, none⟩ = some (.int .i64 (wrap64 (5 + t176))) := (uF BK188.out 0).trans rfl; have hcz31_1 : w28.cell? ⟨gb188, 1, none⟩ = some (.int .i64 t182) := (uF BK188.out 1).trans rfl; have hcz31_2 : w28.cell? ⟨gb188, 2, none⟩ = some (.bool t185) := (uF BK188.out 2).trans rfl; have hcz31_3 : w28.cell? ⟨gb188, 3, none⟩ = some (u189003) := (uF BK188.out 3).trans rfl; have hfz31_0 := uI BK188.out 0; have hfz31_1 := uI BK188.out 1; have hfz31_2 := uI BK188.out 2; have hfz31_3 := uI BK188.out 3; have hnb32 := NB175_0.out; have hnc32 := NB0_175.out; have hcz33_0 : w28.cell? ⟨gb175, 0, none⟩ = some (.int .i64 0) := (uF BK175.out 0).trans rfl; have hcz33_1 : w28.cell? ⟨gb175, 1, none⟩ = some (.int .i64 0) := (uF BK175.out 1).trans rfl; have hcz33_2 : w28.cell? ⟨gb175, 2, none⟩ = some (.bool false) := (uF BK175.out 2).trans rfl; have hcz33_3 : w28.cell? ⟨gb175, 3, none⟩ = some (.slice none 0 0) := (uF BK175.out 3).trans rfl; have hfz33_0 := uI BK175.out 0; have hfz33_1 := uI BK175.out 1; have hfz33_2 := uI BK175.out 2; have hfz33_3 := uI BK175.out 3; obtain ⟨Ao34, co34, eo34⟩ := Kd.R_slice HO_189003.out; subst eo34))
     refine bodyPost_ret (results_cell_row rfl _ _ gb175 63 #[.int .i64 (wrap64 (5 + t176)), .int .i64 t182, .bool t185, .slice Ao34 x189003_1.length co34] (0, 0) _ rfl (by (with_reducible repeat (first | refine uH ?_ _ | refine uJ ?_ | refine uG ?_ _)); refine uP (cs := #[.int .i64 (wrap64 (5 + t176)), .int .i64 t182, .bool t185, .slice none 0 0]) ?_ 3 _ rfl; (with_reducible repeat (first | refine uH ?_ _ | refine uJ ?_ | refine uG ?_ _)); refine uP (cs := #[.int .i64 (wrap64 (5 + t176)), .int .i64 t182, .bool false, .slice none 0 0]) ?_ 2 _ rfl; (with_reducible repeat (first | refine uH ?_ _ | refine uJ ?_ | refine uG ?_ _)); refine uP (cs := #[.int .i64 (wrap64 (5 + t176)), .int .i64 0, .bool false, .slice none 0 0]) ?_ 1 _ rfl; (with_reducible repeat (first | refine uH ?_ _ | refine uJ ?_ | refine uG ?_ _)); refine uP (cs := #[.int .i64 0, .int .i64 0, .bool false, .slice none 0 0]) ?_ 0 _ rfl; (with_reducible repeat (first | refine uH ?_ _ | refine uJ ?_ | refine uG ?_ _)); exact BK175.out) Try.underlying63 rfl (by kernel_rfl)) rfl ?_
     exact ⟨_, by first | rfl | (simp [errW_none, errW_some] <;> rfl) | (simp [*, errW_none, errW_some] <;> rfl), by (with_reducible repeat (first | apply uU | apply uS | apply uT)); exact uX (uV (p := ⟨gb175, 3, none⟩) (uV (p := ⟨gb175, 2, none⟩) (uV (p := ⟨gb175, 1, none⟩) (uV (p := ⟨gb175, 0, none⟩) (uW HO_189003.out BK175.out (by decide)) (fun _ hk => hk.2) (.int .i64 (wrap64 (5 + t176)))) (fun _ hk => hk.2) (.int .i64 t182)) (fun _ hk => hk.2) (.bool t185)) (fun _ hk => hk.2) (.slice Ao34 x189003_1.length co34)) (fun _ hk => trivial), by repeat (first | (with_reducible first | exact HI0.out | apply IsS127.alloc | apply IsS127.drewN | apply IsS127.drew | apply IsS127.set_1 | apply IsS127.set_2 | refine IsS127.far ?_ NB0_175.out _ | refine IsS127.far ?_ NB0_188.out _) | exact HI0.out), by repeat (first | (with_reducible first | exact HB.out | apply uL | apply uE | apply uK | refine uM ?_ (IsS127.ge HI0.out) | refine uM ?_ GE175.out | refine uM ?_ GE188.out) | exact HB.out), by repeat (first | (with_reducible first | exact HK.out | apply KeepBut.set_ | apply keep_drewN | apply keep_drew | apply keep_alloc | refine keep_far ?_ GW175.out _ | refine keep_far ?_ GW188.out _) | exact HK.out)⟩
    ·rw [if_neg c27] at H
     have c27b0 : decide (x4_1 < (wrap64 (1 + t198))) = false := decide_eq_false c27
     clear c27
     replace H := Option.bind_eq_some_iff.mp H
     obtain ⟨⟨t201, t202, t203⟩, A350, H⟩ := H
     replace H : (if x189003_1.length < 5864062014805 then ((spec_l01PickInt.f s0_0 t202 t203 (([0, 0, 1, 2, 6] : List Int))).bind fun bt210 => (spec_l02Belt.l0 k1 (wrap64 ((wrap64 ((wrap64 (x4_1 - (wrap64 (1 + t198)))) - t182)) - bt210.1)) (wrap64 (x5_1 - 1)) s0_0 bt210.2.1 bt210.2.2 (wrap64 (5 + t176)) t182 t185 (x189003_1 ++ [(⟨wrap64 ((wrap64 ((wrap64 (10 * (x189003_1.length : Int))) + 1)) + t201), x4_1, wrap64 (1 + t198)⟩ : S74)]))) else (none)) = some (r1, r2, r3, r4, r5, r6) := H
     have A35 := uD A350
     clear A350
     by_cases c36 : x189003_1.length < 5864062014805
     ·rw [if_pos c36] at H
      have LMc36 := uD c36
      clear c36
      obtain ⟨y204, hy204⟩ : ∃ y_ : List (S74), y_ = (x189003_1 ++ [(⟨wrap64 ((wrap64 ((wrap64 (10 * (x189003_1.length : Int))) + 1)) + t201), x4_1, wrap64 (1 + t198)⟩ : S74)]) := ⟨_, rfl⟩
      replace H : ((spec_l01PickInt.f s0_0 t202 t203 (([0, 0, 1, 2, 6] : List Int))).bind fun bt210 => (spec_l02Belt.l0 k1 (wrap64 ((wrap64 ((wrap64 (x4_1 - (wrap64 (1 + t198)))) - t182)) - bt210.1)) (wrap64 (x5_1 - 1)) s0_0 bt210.2.1 bt210.2.2 (wrap64 (5 + t176)) t182 t185 y204)) = some (r1, r2, r3, r4, r5, r6) := by first | (rw [hy204]; with_reducible exact H) | (have H2_ := (Option.bind_some _ _).symm.trans H; rw [hy204]; with_reducible exact H2_) | (have H2_ := (Option.bind_some _ _).symm.trans H; with_reducible exact H2_) | with_reducible exact H | (rw [hy204]; exact H) | exact H
      have Ny204 := uD hy204
      clear hy204
      obtain ⟨y207, hy207⟩ : ∃ y_ : List Int, y_ = (([0, 0, 1, 2, 6] : List Int)) := ⟨_, rfl⟩
      replace H : ((spec_l01PickInt.f s0_0 t202 t203 y207).bind fun bt210 => (spec_l02Belt.l0 k1 (wrap64 ((wrap64 ((wrap64 (x4_1 - (wrap64 (1 + t198)))) - t182)) - bt210.1)) (wrap64 (x5_1 - 1)) s0_0 bt210.2.1 bt210.2.2 (wrap64 (5 + t176)) t182 t185 y204)) = some (r1, r2, r3, r4, r5, r6) := by first | (rw [hy207]; with_reducible exact H) | (have H2_ := (Option.bind_some _ _).symm.trans H; rw [hy207]; with_reducible exact H2_) | (have H2_ := (Option.bind_some _ _).symm.trans H; with_reducible exact H2_) | with_reducible exact H | (rw [hy207]; exact H) | exact H
      have Ny207 := uD hy207
      clear hy207
      replace H := Option.bind_eq_some_iff.mp H
      obtain ⟨⟨t210, t211, t212⟩, A370, H⟩ := H
      replace H : (spec_l02Belt.l0 k1 (wrap64 ((wrap64 ((wrap64 (x4_1 - (wrap64 (1 + t198)))) - t182)) - t210)) (wrap64 (x5_1 - 1)) s0_0 t211 t212 (wrap64 (5 + t176)) t182 t185 y204) = some (r1, r2, r3, r4, r5, r6) := H
      have A37 := uD A370
      clear A370
      have H' := uD H
      clear H
      try go_wp2_with (first | ((with_reducible refine gate_callee (f := 83) rfl ?_); refine goesL_ (some 29) rfl rfl Try.func83 (by kernel_rfl) rfl #[.pointer (some ⟨g, 0, none⟩), .int .i64 9] rfl (by (try simp only [List.map_toArray, List.map_cons, List.map_nil]); first | done | rfl | (simp only [List.length_drop, List.length_take]; rfl)) ?_; (with_reducible refine (spec_l01Below.calls g s0_0 x1001_1 x1002_1 9 t198 t199 t200 w0 _ ?side1 ?side2 A26.out).mono ?_); (case side1 => repeat (first | (with_reducible first | exact HI0.out | apply IsS127.alloc | apply IsS127.drewN | apply IsS127.drew | apply IsS127.set_1 | apply IsS127.set_2 | refine IsS127.far ?_ NB0_175.out _ | refine IsS127.far ?_ NB0_188.out _) | exact HI0.out)); (case side2 => repeat (first | (with_reducible first | exact HB.out | apply uL | apply uE | apply uK | refine uM ?_ (IsS127.ge HI0.out) | refine uM ?_ GE175.out | refine uM ?_ GE188.out) | exact HB.out)); rintro e w38 ⟨rfl, hi, hb, hk⟩; refine ⟨_, rfl, ?_⟩; have n0_ := uD (uX (Kd.R_keep (IsS127.apart (show IsS127 w0 _ g s0_0 x1001_1 x1002_1 from by repeat (first | (with_reducible first | exact HI0.out | apply IsS127.alloc | apply IsS127.drewN | apply IsS127.drew | apply IsS127.set_1 | apply IsS127.set_2 | refine IsS127.far ?_ NB0_175.out _ | refine IsS127.far ?_ NB0_188.out _) | exact HI0.out)) (by (with_reducible repeat (first | apply uU | apply uS | apply uT)); exact HO_189003.out) (by decide)) hk (fun _ h => h.2)) (fun _ h => h.1)); have n1_ := uD (KeepBut.blk hk (g' := gb175) (o := .cells #[.int .i64 0, .int .i64 0, .bool false, .slice none 0 0] 63 (0, 0)) (by (with_reducible repeat (first | refine uH ?_ _ | refine uJ ?_ | refine uG ?_ _)); exact BK175.out) NB175_0.out (by simp)); have n2_ := uD (KeepBut.blk hk (g' := gb188) (o := .cells #[.int .i64 (wrap64 (5 + t176)), .int .i64 t182, .bool t185, u189003] 63 (0, 0)) (by (with_reducible repeat (first | refine uH ?_ _ | refine uJ ?_ | refine uG ?_ _)); exact BK188.out) NB188_0.out (by simp)); have n3_ := uD (KeepBut.trans (by repeat (first | (with_reducible first | exact HK.out | apply KeepBut.set_ | apply keep_drewN | apply keep_drew | apply keep_alloc | refine keep_far ?_ GW175.out _ | refine keep_far ?_ GW188.out _) | exact HK.out)) hk (.inl rfl)); have n4_ := uD (hb); have n5_ := uD (hi); clear HO_189003; clear BK175; clear BK188; clear HK; clear HB; clear HI0; have HO_189003 := n0_; have BK175 := n1_; have BK188 := n2_; have HK := n3_; have HB := n4_; have HI0 := n5_; clear n0_ n1_ n2_ n3_ n4_ n5_; (try clear hb); (try clear hb2); (try clear hk); (try clear hi)))
      have n0_ := uD (uT HO_189003.out)
      have n1_ := uD (uJ BK175.out)
      have n2_ := uD (uJ BK188.out)
      have n3_ := uD (IsS127.drew HI0.out)
      have n4_ := uD (keep_drew HK.out)
      have n5_ := uD (uK HB.out)
      clear HO_189003
      clear BK175
      clear BK188
      clear HI0
      clear HK
      clear HB
      have HO_189003 := n0_
      have BK175 := n1_
      have BK188 := n2_
      have HI0 := n3_
      have HK := n4_
      have HB := n5_
      clear n0_ n1_ n2_ n3_ n4_ n5_
      obtain ⟨Ao40, co40, eo40⟩ := Kd.R_slice HO_189003.out
      (first | subst eo40 | (injection eo40 with f1_ f2_ f3_; have f4_ := f1_.symm; have f5_ := f3_.symm; clear f1_ f2_ f3_; subst f4_; subst f5_))
      refine start_ (n := 17) (S := fun w' => w'.cell? ⟨gb188, 0, none⟩ = some (.int .i64 (wrap64 (5 + t176))) ∧ w'.cell? ⟨gb188, 1, none⟩ = some (.int .i64 t182) ∧ w'.cell? ⟨gb188, 2, none⟩ = some (.bool t185) ∧ w'.cell? ⟨gb188, 3, none⟩ = some (.slice Ao40 x189003_1.length co40)) (ds := [16]) #[false, false, false, false, false, false, false, false, false, false, false, false, false, false, false, false, false] (by kernel_rfl) rfl rfl ⟨(uF BK188.out 0).trans rfl, (uF BK188.out 1).trans rfl, (uF BK188.out 2).trans rfl, (uF BK188.out 3).trans rfl⟩ (fun hHeld => ?_); refine with_tabW spec_l02Belt.tab8 spec_l02Belt.bits8 (fun HT_ HW_ => ?_)
      generalize w38.drew = w39 at HO_189003 BK175 BK188 HI0 HK HB hHeld ⊢
      refine ub (i := 0) (N := some 34) (v := ?_) (a' := ?_) #[true, false, false, false, false, false, false, false, false, false, false, false, false, false, false, false, false] rfl rfl (uY HT_.out (by kernel_rfl)) (fun _ _ _ h => h) (Or.inl ⟨by rfl, ?_⟩) ?_ ?_
      rotate_left
      ·intro w'
       go_simp
       with_reducible rfl
      rotate_left
      ·simp only [uc, uA, uB, uC, uZ, ua]
       rfl
      refine ub (i := 2) (N := some 36) (v := ?_) (a' := ?_) #[true, false, true, false, false, false, false, false, false, false, false, false, false, false, false, false, false] rfl rfl (uY HT_.out (by kernel_rfl)) (fun _ _ _ h => h) (Or.inl ⟨by rfl, ?_⟩) ?_ ?_
      rotate_left
      ·intro w'
       go_simp
       with_reducible rfl
      rotate_left
      ·simp only [uc, uA, uB, uC, uZ, ua]
       rfl
      refine ub (i := 7) (N := some 41) (v := ?_) (a' := ?_) #[true, false, true, false, false, false, false, true, false, false, false, false, false, false, false, false, false] rfl rfl (uY HT_.out (by kernel_rfl)) (fun _ _ _ h => h) (Or.inl ⟨by rfl, ?_⟩) ?_ ?_
      rotate_left
      ·intro w'
       go_simp
       with_reducible rfl
      rotate_left
      ·simp only [uc, uA, uB, uC, uZ, ua]
       rfl
      refine ub (i := 10) (N := some 44) (v := ?_) (a' := ?_) #[true, false, true, false, false, false, false, true, false, false, true, false, false, false, false, false, false] rfl rfl (uY HT_.out (by kernel_rfl)) (fun _ _ _ h => h) (Or.inl ⟨by rfl, ?_⟩) ?_ ?_
      rotate_left
      ·intro w'
       go_simp
       with_reducible rfl
      rotate_left
      ·simp only [uc, uA, uB, uC, uZ, ua]
       rfl
      refine ub (i := 11) (N := some 45) (v := ?_) (a' := ?_) #[true, false, true, false, false, false, false, true, false, false, true, true, false, false, false, false, false] rfl rfl (uY HT_.out (by kernel_rfl)) (fun _ _ _ h => h) (Or.inl ⟨by rfl, ?_⟩) ?_ ?_
      rotate_left
      ·intro w'
       go_simp
       with_reducible rfl
      rotate_left
      ·simp only [uc, uA, uB, uC, uZ, ua]
       rfl
      refine take_ (i := 1) (N := some 35) (v := ?_) (a' := ?_) #[true, true, true, false, false, false, false, true, false, false, true, true, false, false, false, false, false] rfl rfl (take_ofW HT_.out HW_.out (by kernel_rfl)) (fun _ _ _ h => h) (Or.inl ⟨by rfl, ?_⟩) hHeld ?_ ?_
      rotate_left
      ·rintro w' ⟨s0, s1, s2, s3⟩
       go_simp
       with_reducible rfl
      rotate_left
      ·simp only [uc, uA, uB, uC, uZ, ua]
       rfl
      refine take_ (i := 3) (N := some 37) (v := ?_) (a' := ?_) #[true, true, true, true, false, false, false, true, false, false, true, true, false, false, false, false, false] rfl rfl (take_ofW HT_.out HW_.out (by kernel_rfl)) (fun _ _ _ h => h) (Or.inl ⟨by rfl, ?_⟩) hHeld ?_ ?_
      rotate_left
      ·rintro w' ⟨s0, s1, s2, s3⟩
       go_simp
       with_reducible rfl
      rotate_left
      ·simp only [uc, uA, uB, uC, uZ, ua]
       rfl
      refine ub (i := 4) (N := some 38) (v := ?_) (a' := ?_) #[true, true, true, true, true, false, false, true, false, false, true, true, false, false, false, false, false] rfl rfl (uY HT_.out (by kernel_rfl)) (fun _ _ _ h => h) (Or.inl ⟨by rfl, ?_⟩) ?_ ?_
      rotate_left
      ·intro w'
       go_simp
       with_reducible rfl
      rotate_left
      ·simp only [uc, uA, uB, uC, uZ, ua]
       rfl
      refine ub (i := 5) (N := some 39) (v := ?_) (a' := ?_) #[true, true, true, true, true, true, false, true, false, false, true, true, false, false, false, false, false] rfl rfl (uY HT_.out (by kernel_rfl)) (fun _ _ _ h => h) (Or.inl ⟨by rfl, ?_⟩) ?_ ?_
      rotate_left
      ·intro w'
       go_simp
       with_reducible rfl
      rotate_left
      ·simp only [uc, uA, uB, uC, uZ, ua]
       rfl
      refine ub (i := 6) (N := some 40) (v := ?_) (a' := ?_) #[true, true, true, true, true, true, true, true, false, false, true, true, false, false, false, false, false] rfl rfl (uY HT_.out (by kernel_rfl)) (fun _ _ _ h => h) (Or.inl ⟨by rfl, ?_⟩) ?_ ?_
      rotate_left
      ·intro w'
       go_simp
       with_reducible rfl
      rotate_left
      ·simp only [uc, uA, uB, uC, uZ, ua]
       rfl
      refine one_ (i := 8) (N := some 42) #[true, true, true, true, true, true, true, true, true, false, true, true, false, false, false, false, false] rfl rfl (one_of HT_.out (by kernel_rfl)) (by decide) (fun K hK => ?_)
      refine goes_ Try.func83 (by kernel_rfl) rfl #[.pointer (some ⟨g, 0, none⟩), .int .i64 9] (by rfl) rfl rfl (by (try simp only [List.map_toArray, List.map_cons, List.map_nil]); first | done | rfl | (simp only [List.length_drop, List.length_take]; rfl)) ?_
      with_reducible refine (spec_l01Below.calls g s0_0 t199 t200 9 t201 t202 t203 w0 _ ?side1 ?side2 A35.out).mono ?_
      (case side1 => repeat (first | (with_reducible first | exact HI0.out | apply IsS127.alloc | apply IsS127.drewN | apply IsS127.drew | apply IsS127.set_1 | apply IsS127.set_2 | refine IsS127.far ?_ NB0_175.out _ | refine IsS127.far ?_ NB0_188.out _) | exact HI0.out))
      (case side2 => repeat (first | (with_reducible first | exact HB.out | apply uL | apply uE | apply uK | refine uM ?_ (IsS127.ge HI0.out) | refine uM ?_ GE175.out | refine uM ?_ GE188.out) | exact HB.out))
      rintro e w41 ⟨rfl, hi, hb, hk⟩
      refine ⟨_, rfl, ?_⟩
      have n0_ := uD (uX (Kd.R_keep (IsS127.apart (show IsS127 w0 _ g s0_0 t199 t200 from by repeat (first | (with_reducible first | exact HI0.out | apply IsS127.alloc | apply IsS127.drewN | apply IsS127.drew | apply IsS127.set_1 | apply IsS127.set_2 | refine IsS127.far ?_ NB0_175.out _ | refine IsS127.far ?_ NB0_188.out _) | exact HI0.out)) (by (with_reducible repeat (first | apply uU | apply uS | apply uT)); exact HO_189003.out) (by decide)) hk (fun _ h => h.2)) (fun _ h => h.1))
      have n1_ := uD (KeepBut.blk hk (g' := gb175) (o := .cells #[.int .i64 0, .int .i64 0, .bool false, .slice none 0 0] 63 (0, 0)) (by (with_reducible repeat (first | refine uH ?_ _ | refine uJ ?_ | refine uG ?_ _)); exact BK175.out) NB175_0.out (by simp))
      have n2_ := uD (KeepBut.blk hk (g' := gb188) (o := .cells #[.int .i64 (wrap64 (5 + t176)), .int .i64 t182, .bool t185, .slice Ao40 x189003_1.length co40] 63 (0, 0)) (by (with_reducible repeat (first | refine uH ?_ _ | refine uJ ?_ | refine uG ?_ _)); exact BK188.out) NB188_0.out (by simp))
      have n3_ := uD (KeepBut.trans (by repeat (first | (with_reducible first | exact HK.out | apply KeepBut.set_ | apply keep_drewN | apply keep_drew | apply keep_alloc | refine keep_far ?_ GW175.out _ | refine keep_far ?_ GW188.out _) | exact HK.out)) hk (.inl rfl))
      have n4_ := uD (hb)
      have n5_ := uD (hi)
      clear HO_189003
      clear BK175
      clear BK188
      clear HK
      clear HB
      clear HI0
      have HO_189003 := n0_
      have BK175 := n1_
      have BK188 := n2_
      have HK := n3_
      have HB := n4_
      have HI0 := n5_
      clear n0_ n1_ n2_ n3_ n4_ n5_
      (try clear hb)
      (try clear hb2)
      (try clear hk)
      (try clear hi)
      refine hK.out _ _ ⟨(uF BK188.out 0).trans rfl, (uF BK188.out 1).trans rfl, (uF BK188.out 2).trans rfl, (uF BK188.out 3).trans rfl⟩ (fun hHeld => ?_)
      clear hK K
      refine norm_ (a' := ?_) ?_ ?_
      rotate_left
      ·show uc _ (some 42) _ = _
       simp only [uc, uA, uB, uC, uZ, ua]
       rfl
      refine ub (i := 9) (N := some 43) (v := ?_) (a' := ?_) #[true, true, true, true, true, true, true, true, true, true, true, true, false, false, false, false, false] rfl rfl (uY HT_.out (by kernel_rfl)) (fun _ _ _ h => h) (Or.inl ⟨by rfl, ?_⟩) ?_ ?_
      rotate_left
      ·intro w'
       go_simp
       with_reducible rfl
      rotate_left
      ·simp only [uc, uA, uB, uC, uZ, ua]
       rfl
      refine ub (i := 12) (N := some 46) (v := ?_) (a' := ?_) #[true, true, true, true, true, true, true, true, true, true, true, true, true, false, false, false, false] rfl rfl (uY HT_.out (by kernel_rfl)) (fun _ _ _ h => h) (Or.inl ⟨by rfl, ?_⟩) ?_ ?_
      rotate_left
      ·intro w'
       go_simp
       with_reducible rfl
      rotate_left
      ·simp only [uc, uA, uB, uC, uZ, ua]
       rfl
      refine one_ (i := 13) (N := some 47) #[true, true, true, true, true, true, true, true, true, true, true, true, true, true, false, false, false] rfl rfl (one_of HT_.out (by kernel_rfl)) (by decide) (fun K hK => ?_)
      refine value_ (w1 := ?_) (v := ?_) (by rfl) rfl ?_ ?_
      rotate_left 2
      ·go_simp
       constructor
       ·rfl
       ·rfl
      refine hK.out _ _ ⟨(uF (uG BK188.out _) 0).trans rfl, (uF (uG BK188.out _) 1).trans rfl, (uF (uG BK188.out _) 2).trans rfl, (uF (uG BK188.out _) 3).trans rfl⟩ (fun hHeld => ?_)
      clear hK K
      refine norm_ (a' := ?_) ?_ ?_
      rotate_left
      ·show uc _ (some 47) _ = _
       simp only [uc, uA, uB, uC, uZ, ua]
       rfl
      refine one_ (i := 14) (N := some 48) #[true, true, true, true, true, true, true, true, true, true, true, true, true, true, true, false, false] rfl rfl (one_of HT_.out (by kernel_rfl)) (by decide) (fun K hK => ?_)
      refine Kd.R_append_step k74 w.heap.size (by rfl) (.tmp 35) (.tmp 47) 61 74 (.agg #[(.int .i64 0), (.int .i64 0), (.int .i64 0)]) 24 rfl Try.underlying61 info74 rfl (by decide) (by omega) (.slice Ao40 x189003_1.length co40) x189003_1 (⟨wrap64 ((wrap64 ((wrap64 (10 * (x189003_1.length : Int))) + 1)) + t201), x4_1, wrap64 (1 + t198)⟩ : S74) [.int .i64 (wrap64 ((wrap64 ((wrap64 (10 * (x189003_1.length : Int))) + 1)) + t201)), .int .i64 x4_1, .int .i64 (wrap64 (1 + t198))] (fun _ => True) (fun _ => False) rfl rfl ?aP (fun _ hk => hk.elim) ?aF ?aO (Below.refl _ _) ?aS ?aL ?_
      (case aP => exact k74_mkM _ _ _ (⟨wrap64 ((wrap64 ((wrap64 (10 * (x189003_1.length : Int))) + 1)) + t201), x4_1, wrap64 (1 + t198)⟩ : S74))
      (case aF => exact (fun _ _ => trivial))
      (case aO => exact (by (with_reducible repeat (first | apply uU | apply uS | apply uT)); exact HO_189003.out))
      (case aS => exact (keep_size (w := w) (g := g) (row := none) (by repeat (first | (with_reducible first | exact HK.out | apply KeepBut.set_ | apply keep_drewN | apply keep_drew | apply keep_alloc | refine keep_far ?_ GW175.out _ | refine keep_far ?_ GW188.out _) | exact HK.out))))
      (case aL => have := LMc36.out; omega)
      intro v205 w42 ho hb hg hat
      rw [← Ny204.out] at ho
      have n0_ := uD (blk_grown (g := gb175) (o := .cells #[.int .i64 0, .int .i64 0, .bool false, .slice none 0 0] 63 (0, 0)) (by (with_reducible repeat (first | refine uH ?_ _ | refine uJ ?_ | refine uG ?_ _)); exact BK175.out) hg (Kd.R_ne HO_189003.out BK175.out (by decide)))
      have n1_ := uD (blk_grown (g := gb188) (o := .cells #[.int .i64 (wrap64 (5 + t176)), .int .i64 t182, .bool t185, .slice Ao40 x189003_1.length co40] 63 (0, 0)) (by (with_reducible repeat (first | refine uH ?_ _ | refine uJ ?_ | refine uG ?_ _)); exact BK188.out) hg (Kd.R_ne HO_189003.out BK188.out (by decide)))
      have n2_ := uD (IsS127.grown (by repeat (first | (with_reducible first | exact HI0.out | apply IsS127.alloc | apply IsS127.drewN | apply IsS127.drew | apply IsS127.set_1 | apply IsS127.set_2 | refine IsS127.far ?_ NB0_175.out _ | refine IsS127.far ?_ NB0_188.out _) | exact HI0.out)) hg (IsS127.own_ne HI0.out HO_189003.out (by decide)))
      have n3_ := uD (below_weaken (by repeat (first | (with_reducible first | exact HB.out | apply uL | apply uE | apply uK | refine uM ?_ (IsS127.ge HI0.out) | refine uM ?_ GE175.out | refine uM ?_ GE188.out) | exact HB.out)) HL.out hb)
      have n4_ := uD (KeepBut.trans (by repeat (first | (with_reducible first | exact HK.out | apply KeepBut.set_ | apply keep_drewN | apply keep_drew | apply keep_alloc | refine keep_far ?_ GW175.out _ | refine keep_far ?_ GW188.out _) | exact HK.out)) (KeepBut.of_grown hg g) (Kd.R_base2 HO_189003.out))
      have n5_ := uD (ho)
      clear BK175
      clear BK188
      clear HI0
      clear HB
      clear HK
      clear HO_189003
      have BK175 := n0_
      have BK188 := n1_
      have HI0 := n2_
      have HB := n3_
      have HK := n4_
      have HO206 := n5_
      clear n0_ n1_ n2_ n3_ n4_ n5_
      clear ho hb hg hat
      obtain ⟨Ao43, co43, eo43⟩ := Kd.R_slice HO206.out
      (first | subst eo43 | (injection eo43 with f1_ f2_ f3_; have f4_ := f1_.symm; have f5_ := f3_.symm; clear f1_ f2_ f3_; subst f4_; subst f5_))
      refine hK.out _ _ ⟨(uF BK188.out 0).trans rfl, (uF BK188.out 1).trans rfl, (uF BK188.out 2).trans rfl, (uF BK188.out 3).trans rfl⟩ (fun hHeld => ?_)
      clear hK K
      refine norm_ (a' := ?_) ?_ ?_
      rotate_left
      ·show uc _ (some 48) _ = _
       simp only [uc, uA, uB, uC, uZ, ua]
       rfl
      refine ub (i := 15) (N := some 49) (v := ?_) (a' := ?_) #[true, true, true, true, true, true, true, true, true, true, true, true, true, true, true, true, false] rfl rfl (uY HT_.out (by kernel_rfl)) (fun _ _ _ h => h) (Or.inl ⟨by rfl, ?_⟩) ?_ ?_
      rotate_left
      ·intro w'
       go_simp
       with_reducible rfl
      rotate_left
      ·simp only [uc, uA, uB, uC, uZ, ua]
       rfl
      refine last_ (i := 16) (N := none) #[true, true, true, true, true, true, true, true, true, true, true, true, true, true, true, true, true] rfl rfl (one_of HT_.out (by kernel_rfl)) (by decide) (fun K hK => ?_)
      have hs44 : w42.cell? ⟨gb188, 3, none⟩ = some (.slice Ao40 x189003_1.length co40) := (uF BK188.out 3).trans rfl
      have hfs44 := uI BK188.out 3
      have hns44_0 := NB175_188.out
      have hms44_0 := NB188_175.out
      refine skip_ (w1 := ?_) (by rfl) rfl ?_ ?_
      rotate_left
      ·go_simp
       rfl
      refine hK.out _ _ ?_
      clear hK K
      refine done_ (done_of HT_.out (by kernel_rfl)) ?_
      try go_wp2
      have n0_ : Aside0 (Kd.R k74 74 (w42.setCell ⟨gb188, 3, none⟩ (.slice Ao43 y204.length co43)) w.heap.size (fun _ => True) (.slice Ao43 y204.length co43) y204) := ⟨by (with_reducible repeat (first | apply uU | apply uS | apply uT)); exact uX (uV (p := ⟨gb188, 3, none⟩) (uW HO206.out BK188.out (by decide)) (fun _ hk => hk.2) (.slice Ao43 y204.length co43)) (fun _ hk => trivial)⟩
      have n1_ : Aside0 ((w42.setCell ⟨gb188, 3, none⟩ (.slice Ao43 y204.length co43)).heap[gb175]? = some (.cells #[.int .i64 0, .int .i64 0, .bool false, .slice none 0 0] 63 (0, 0))) := ⟨by (with_reducible repeat (first | refine uH ?_ _ | refine uJ ?_ | refine uG ?_ _)); refine uQ ?_ NB175_188.out _; (with_reducible repeat (first | refine uH ?_ _ | refine uJ ?_ | refine uG ?_ _)); exact BK175.out⟩
      have n2_ : Aside0 ((w42.setCell ⟨gb188, 3, none⟩ (.slice Ao43 y204.length co43)).heap[gb188]? = some (.cells #[.int .i64 (wrap64 (5 + t176)), .int .i64 t182, .bool t185, .slice Ao43 y204.length co43] 63 (0, 0))) := ⟨by (with_reducible repeat (first | refine uH ?_ _ | refine uJ ?_ | refine uG ?_ _)); refine uP (cs := #[.int .i64 (wrap64 (5 + t176)), .int .i64 t182, .bool t185, .slice Ao40 x189003_1.length co40]) ?_ 3 _ rfl; (with_reducible repeat (first | refine uH ?_ _ | refine uJ ?_ | refine uG ?_ _)); exact BK188.out⟩
      have n3_ : Aside0 (IsS127 w0 (w42.setCell ⟨gb188, 3, none⟩ (.slice Ao43 y204.length co43)) g s0_0 t202 t203) := ⟨by repeat (first | (with_reducible first | exact HI0.out | apply IsS127.alloc | apply IsS127.drewN | apply IsS127.drew | apply IsS127.set_1 | apply IsS127.set_2 | refine IsS127.far ?_ NB0_175.out _ | refine IsS127.far ?_ NB0_188.out _) | exact HI0.out)⟩
      have n4_ : Aside0 (KeepBut w (w42.setCell ⟨gb188, 3, none⟩ (.slice Ao43 y204.length co43)) g none) := ⟨by repeat (first | (with_reducible first | exact HK.out | apply KeepBut.set_ | apply keep_drewN | apply keep_drew | apply keep_alloc | refine keep_far ?_ GW175.out _ | refine keep_far ?_ GW188.out _) | exact HK.out)⟩
      have n5_ : Aside0 (Below w0.heap.size w0 (w42.setCell ⟨gb188, 3, none⟩ (.slice Ao43 y204.length co43))) := ⟨by repeat (first | (with_reducible first | exact HB.out | apply uL | apply uE | apply uK | refine uM ?_ (IsS127.ge HI0.out) | refine uM ?_ GE175.out | refine uM ?_ GE188.out) | exact HB.out)⟩
      (try clear HO206)
      (try clear BK175)
      (try clear BK188)
      (try clear HI0)
      (try clear HK)
      (try clear HB)
      generalize (w42.setCell ⟨gb188, 3, none⟩ (.slice Ao43 y204.length co43)) = w45 at n0_ n1_ n2_ n3_ n4_ n5_ ⊢
      have HO206 := n0_
      have BK175 := n1_
      have BK188 := n2_
      have HI0 := n3_
      have HK := n4_
      have HB := n5_
      clear n0_ n1_ n2_ n3_ n4_ n5_
      have n0_ := uD (uT HO206.out)
      have n1_ := uD (uJ BK175.out)
      have n2_ := uD (uJ BK188.out)
      have n3_ := uD (IsS127.drew HI0.out)
      have n4_ := uD (keep_drew HK.out)
      have n5_ := uD (uK HB.out)
      clear HO206
      clear BK175
      clear BK188
      clear HI0
      clear HK
      clear HB
      have HO206 := n0_
      have BK175 := n1_
      have BK188 := n2_
      have HI0 := n3_
      have HK := n4_
      have HB := n5_
      clear n0_ n1_ n2_ n3_ n4_ n5_
      refine start_ (n := 11) (S := fun w' => w'.cell? ⟨gb188, 0, none⟩ = some (.int .i64 (wrap64 (5 + t176))) ∧ w'.cell? ⟨gb188, 1, none⟩ = some (.int .i64 t182) ∧ w'.cell? ⟨gb188, 2, none⟩ = some (.bool t185) ∧ w'.cell? ⟨gb188, 3, none⟩ = some (.slice Ao43 y204.length co43)) (ds := []) #[false, false, false, false, false, false, false, false, false, false, false] (by kernel_rfl) rfl rfl ⟨(uF BK188.out 0).trans rfl, (uF BK188.out 1).trans rfl, (uF BK188.out 2).trans rfl, (uF BK188.out 3).trans rfl⟩ (fun hHeld => ?_); refine with_tabW spec_l02Belt.tab9 spec_l02Belt.bits9 (fun HT_ HW_ => ?_)
      generalize w45.drew = w46 at HO206 BK175 BK188 HI0 HK HB hHeld ⊢
      refine ub (i := 0) (N := some 50) (v := ?_) (a' := ?_) #[true, false, false, false, false, false, false, false, false, false, false] rfl rfl (uY HT_.out (by kernel_rfl)) (fun _ _ _ h => h) (Or.inl ⟨by rfl, ?_⟩) ?_ ?_
      rotate_left
      ·intro w'
       go_simp
       with_reducible rfl
      rotate_left
      ·simp only [uc, uA, uB, uC, uZ, ua]
       rfl
      refine ub (i := 1) (N := some 51) (v := ?_) (a' := ?_) #[true, true, false, false, false, false, false, false, false, false, false] rfl rfl (uY HT_.out (by kernel_rfl)) (fun _ _ _ h => h) (Or.inl ⟨by rfl, ?_⟩) ?_ ?_
      rotate_left
      ·intro w'
       go_simp
       with_reducible rfl
      rotate_left
      ·simp only [uc, uA, uB, uC, uZ, ua]
       rfl
      refine ub (i := 2) (N := some 52) (v := ?_) (a' := ?_) #[true, true, true, false, false, false, false, false, false, false, false] rfl rfl (uY HT_.out (by kernel_rfl)) (fun _ _ _ h => h) (Or.inl ⟨by rfl, ?_⟩) ?_ ?_
      rotate_left
      ·intro w'
       go_simp
       with_reducible rfl
      rotate_left
      ·simp only [uc, uA, uB, uC, uZ, ua]
       rfl
      refine ub (i := 3) (N := some 53) (v := ?_) (a' := ?_) #[true, true, true, true, false, false, false, false, false, false, false] rfl rfl (uY HT_.out (by kernel_rfl)) (fun _ _ _ h => h) (Or.inl ⟨by rfl, ?_⟩) ?_ ?_
      rotate_left
      ·intro w'
       go_simp
       with_reducible rfl
      rotate_left
      ·simp only [uc, uA, uB, uC, uZ, ua]
       rfl
      refine ub (i := 6) (N := some 56) (v := ?_) (a' := ?_) #[true, true, true, true, false, false, true, false, false, false, false] rfl rfl (uY HT_.out (by kernel_rfl)) (fun _ _ _ h => h) (Or.inl ⟨by rfl, ?_⟩) ?_ ?_
      rotate_left
      ·intro w'
       go_simp
       with_reducible rfl
      rotate_left
      ·simp only [uc, uA, uB, uC, uZ, ua]
       rfl
      refine take_ (i := 4) (N := some 54) (v := ?_) (a' := ?_) #[true, true, true, true, true, false, true, false, false, false, false] rfl rfl (take_ofW HT_.out HW_.out (by kernel_rfl)) (fun _ _ _ h => h) (Or.inl ⟨by rfl, ?_⟩) hHeld ?_ ?_
      rotate_left
      ·rintro w' ⟨s0, s1, s2, s3⟩
       go_simp
       with_reducible rfl
      rotate_left
      ·simp only [uc, uA, uB, uC, uZ, ua]
       rfl
      refine ub (i := 5) (N := some 55) (v := ?_) (a' := ?_) #[true, true, true, true, true, true, true, false, false, false, false] rfl rfl (uY HT_.out (by kernel_rfl)) (fun _ _ _ h => h) (Or.inl ⟨by rfl, ?_⟩) ?_ ?_
      rotate_left
      ·intro w'
       go_simp
       with_reducible rfl
      rotate_left
      ·simp only [uc, uA, uB, uC, uZ, ua]
       rfl
      refine one_ (i := 7) (N := some 57) #[true, true, true, true, true, true, true, true, false, false, false] rfl rfl (one_of HT_.out (by kernel_rfl)) (by decide) (fun K hK => ?_)
      refine Kd.R_lit_step (Kd.int .i64) _ 3 ?hg (N := 57) ?hd (xs := ([0, 0, 1, 2, 6] : List Int)) (inner := [.int .i64 0, .int .i64 0, .int .i64 1, .int .i64 2, .int .i64 6]) (ok := fun _ => True) (okp := fun _ => True) ?hr ?hp (fun _ hk => hk) trivial (Below.refl _ _) (Nat.le_refl _) (by simp) ?_; (case hd => rfl); (case hg => rfl); (case hr => first | (go_simp; done) | (go_simp; rfl)); (case hp => exact (Reps.one (show Kd.M (Kd.int .i64) _ _ _ 0 [.int .i64 0] from rfl) (Reps.one (show Kd.M (Kd.int .i64) _ _ _ 0 [.int .i64 0] from rfl) (Reps.one (show Kd.M (Kd.int .i64) _ _ _ 1 [.int .i64 1] from rfl) (Reps.one (show Kd.M (Kd.int .i64) _ _ _ 2 [.int .i64 2] from rfl) (Reps.one (show Kd.M (Kd.int .i64) _ _ _ 6 [.int .i64 6] from rfl) (Reps.none _ _)))))))
      intro v208 w47 ho48 hb hg_ hnew_
      clear hg_ hnew_
      (first | rw [← Ny207.out] at ho48 | (simp only [Int.reduceToNat] at ho48; rw [← Ny207.out] at ho48))
      have n0_ := uD (Kd.R_below (by (with_reducible repeat (first | apply uU | apply uS | apply uT)); exact HO206.out) hb)
      have n1_ := uD (Kd.R_lower ho48 (keep_size (w := w) (g := g) (row := none) (by repeat (first | (with_reducible first | exact HK.out | apply KeepBut.set_ | apply keep_drewN | apply keep_drew | apply keep_alloc | refine keep_far ?_ GW175.out _ | refine keep_far ?_ GW188.out _) | exact HK.out))))
      have n2_ := uD (blk_below (g := gb175) (o := .cells #[.int .i64 0, .int .i64 0, .bool false, .slice none 0 0] 63 (0, 0)) (by (with_reducible repeat (first | refine uH ?_ _ | refine uJ ?_ | refine uG ?_ _)); exact BK175.out) hb)
      have n3_ := uD (blk_below (g := gb188) (o := .cells #[.int .i64 (wrap64 (5 + t176)), .int .i64 t182, .bool t185, .slice Ao43 y204.length co43] 63 (0, 0)) (by (with_reducible repeat (first | refine uH ?_ _ | refine uJ ?_ | refine uG ?_ _)); exact BK188.out) hb)
      have n4_ := uD (IsS127.below (by repeat (first | (with_reducible first | exact HI0.out | apply IsS127.alloc | apply IsS127.drewN | apply IsS127.drew | apply IsS127.set_1 | apply IsS127.set_2 | refine IsS127.far ?_ NB0_175.out _ | refine IsS127.far ?_ NB0_188.out _) | exact HI0.out)) hb)
      have n5_ := uD (KeepBut.trans (by repeat (first | (with_reducible first | exact HK.out | apply KeepBut.set_ | apply keep_drewN | apply keep_drew | apply keep_alloc | refine keep_far ?_ GW175.out _ | refine keep_far ?_ GW188.out _) | exact HK.out)) (KeepBut.of_below hb g none) (.inl rfl))
      have n6_ := uD (uO (by repeat (first | (with_reducible first | exact HB.out | apply uL | apply uE | apply uK | refine uM ?_ (IsS127.ge HI0.out) | refine uM ?_ GE175.out | refine uM ?_ GE188.out) | exact HB.out)) hb)
      clear HO206
      clear BK175
      clear BK188
      clear HI0
      clear HK
      clear HB
      have HO206 := n0_
      have HO209 := n1_
      have BK175 := n2_
      have BK188 := n3_
      have HI0 := n4_
      have HK := n5_
      have HB := n6_
      clear n0_ n1_ n2_ n3_ n4_ n5_ n6_
      clear hb ho48
      obtain ⟨Ao49, co49, eo49⟩ := Kd.R_slice HO209.out
      (first | subst eo49 | (injection eo49 with f1_ f2_ f3_; have f4_ := f1_.symm; have f5_ := f3_.symm; clear f1_ f2_ f3_; subst f4_; subst f5_))
      refine hK.out _ _ ⟨(uF BK188.out 0).trans rfl, (uF BK188.out 1).trans rfl, (uF BK188.out 2).trans rfl, (uF BK188.out 3).trans rfl⟩ (fun hHeld => ?_)
      clear hK K
      refine norm_ (a' := ?_) ?_ ?_
      rotate_left
      ·show uc _ (some 57) _ = _
       simp only [uc, uA, uB, uC, uZ, ua]
       rfl
      refine one_ (i := 8) (N := some 58) #[true, true, true, true, true, true, true, true, true, false, false] rfl rfl (one_of HT_.out (by kernel_rfl)) (by decide) (fun K hK => ?_)
      refine goes_ Try.func89 (by kernel_rfl) rfl #[.pointer (some ⟨g, 0, none⟩), .slice Ao49 y207.length co49] (by rfl) rfl rfl (by (try simp only [List.map_toArray, List.map_cons, List.map_nil]); first | done | rfl | (simp only [List.length_drop, List.length_take]; rfl)) ?_
      with_reducible refine (spec_l01PickInt.calls g s0_0 t202 t203 _ _ y207 t210 t211 t212 w0 _ ?side1 ?side2 ?side3 ?side4 ?side5 A37.out).mono ?_
      (case side1 => repeat (first | (with_reducible first | exact HI0.out | apply IsS127.alloc | apply IsS127.drewN | apply IsS127.drew | apply IsS127.set_1 | apply IsS127.set_2 | refine IsS127.far ?_ NB0_175.out _ | refine IsS127.far ?_ NB0_188.out _) | exact HI0.out))
      (case side2 => repeat (first | (with_reducible first | exact HB.out | apply uL | apply uE | apply uK | refine uM ?_ (IsS127.ge HI0.out) | refine uM ?_ GE175.out | refine uM ?_ GE188.out) | exact HB.out))
      (case side3 => repeat (first | exact (Kd.R_reads' HO209.out).2.2 | (with_reducible refine Kd.C_alloc ?_ _) | (with_reducible refine Kd.C_drewN ?_ _) | (with_reducible refine Kd.C_drew ?_)))
      (case side4 => exact (Kd.R_reads' HO209.out).2.1)
      (case side5 => exact far_slice (IsS127.own_ne HI0.out HO209.out (by decide)))
      rintro e w50 ⟨rfl, hi, hb, hk⟩
      refine ⟨_, rfl, ?_⟩
      have n0_ := uD (KeepBut.blk hk (g' := gb175) (o := .cells #[.int .i64 0, .int .i64 0, .bool false, .slice none 0 0] 63 (0, 0)) (by (with_reducible repeat (first | refine uH ?_ _ | refine uJ ?_ | refine uG ?_ _)); exact BK175.out) NB175_0.out (by simp))
      have n1_ := uD (KeepBut.blk hk (g' := gb188) (o := .cells #[.int .i64 (wrap64 (5 + t176)), .int .i64 t182, .bool t185, .slice Ao43 y204.length co43] 63 (0, 0)) (by (with_reducible repeat (first | refine uH ?_ _ | refine uJ ?_ | refine uG ?_ _)); exact BK188.out) NB188_0.out (by simp))
      have n2_ := uD (uX (Kd.R_keep (IsS127.apart (show IsS127 w0 _ g s0_0 t202 t203 from by repeat (first | (with_reducible first | exact HI0.out | apply IsS127.alloc | apply IsS127.drewN | apply IsS127.drew | apply IsS127.set_1 | apply IsS127.set_2 | refine IsS127.far ?_ NB0_175.out _ | refine IsS127.far ?_ NB0_188.out _) | exact HI0.out)) (by (with_reducible repeat (first | apply uU | apply uS | apply uT)); exact HO206.out) (by decide)) hk (fun _ h => h.2)) (fun _ h => h.1))
      have n3_ := uD (uX (Kd.R_keep (IsS127.apart (show IsS127 w0 _ g s0_0 t202 t203 from by repeat (first | (with_reducible first | exact HI0.out | apply IsS127.alloc | apply IsS127.drewN | apply IsS127.drew | apply IsS127.set_1 | apply IsS127.set_2 | refine IsS127.far ?_ NB0_175.out _ | refine IsS127.far ?_ NB0_188.out _) | exact HI0.out)) (by (with_reducible repeat (first | apply uU | apply uS | apply uT)); exact HO209.out) (by decide)) hk (fun _ h => h.2)) (fun _ h => h.1))
      have n4_ := uD (KeepBut.trans (by repeat (first | (with_reducible first | exact HK.out | apply KeepBut.set_ | apply keep_drewN | apply keep_drew | apply keep_alloc | refine keep_far ?_ GW175.out _ | refine keep_far ?_ GW188.out _) | exact HK.out)) hk (.inl rfl))
      have n5_ := uD (hb)
      have n6_ := uD (hi)
      clear BK175
      clear BK188
      clear HO206
      clear HO209
      clear HK
      clear HB
      clear HI0
      have BK175 := n0_
      have BK188 := n1_
      have HO206 := n2_
      have HO209 := n3_
      have HK := n4_
      have HB := n5_
      have HI0 := n6_
      clear n0_ n1_ n2_ n3_ n4_ n5_ n6_
      (try clear hb)
      (try clear hb2)
      (try clear hk)
      (try clear hi)
      refine hK.out _ _ ⟨(uF BK188.out 0).trans rfl, (uF BK188.out 1).trans rfl, (uF BK188.out 2).trans rfl, (uF BK188.out 3).trans rfl⟩ (fun hHeld => ?_)
      clear hK K
      refine norm_ (a' := ?_) ?_ ?_
      rotate_left
      ·show uc _ (some 58) _ = _
       simp only [uc, uA, uB, uC, uZ, ua]
       rfl
      refine ub (i := 9) (N := some 59) (v := ?_) (a' := ?_) #[true, true, true, true, true, true, true, true, true, true, false] rfl rfl (uY HT_.out (by kernel_rfl)) (fun _ _ _ h => h) (Or.inl ⟨by rfl, ?_⟩) ?_ ?_
      rotate_left
      ·intro w'
       go_simp
       with_reducible rfl
      rotate_left
      ·simp only [uc, uA, uB, uC, uZ, ua]
       rfl
      refine ub (i := 10) (N := some 4) (v := ?_) (a' := ?_) #[true, true, true, true, true, true, true, true, true, true, true] rfl rfl (uY HT_.out (by kernel_rfl)) (fun _ _ _ h => h) (Or.inl ⟨by rfl, ?_⟩) ?_ ?_
      rotate_left
      ·intro w'
       go_simp
       with_reducible rfl
      rotate_left
      ·simp only [uc, uA, uB, uC, uZ, ua]
       rfl
      refine done_ (done_of HT_.out (by kernel_rfl)) ?_
      try go_wp2
      go_roundg k1
      case measure => have := HK1.out; omega
      case rel => exact ⟨(wrap64 ((wrap64 ((wrap64 (x4_1 - (wrap64 (1 + t198)))) - t182)) - t210)), (wrap64 (x5_1 - 1)), (t211), (t212), (y204), (.slice Ao43 y204.length co43), (by first | rfl | (simp; done) | (simp [*]; done)), (by first | rfl | (simp; done) | (simp [*]; done)), H', ⟨by have := HK1.out; omega⟩, ⟨by (with_reducible repeat (first | apply uU | apply uS | apply uT)); exact HO206.out⟩, ⟨by (with_reducible repeat (first | refine uH ?_ _ | refine uJ ?_ | refine uG ?_ _)); exact BK175.out⟩, ⟨by (with_reducible repeat (first | refine uH ?_ _ | refine uJ ?_ | refine uG ?_ _)); exact BK188.out⟩, ⟨by repeat (first | (with_reducible first | exact HI0.out | apply IsS127.alloc | apply IsS127.drewN | apply IsS127.drew | apply IsS127.set_1 | apply IsS127.set_2 | refine IsS127.far ?_ NB0_175.out _ | refine IsS127.far ?_ NB0_188.out _) | exact HI0.out)⟩, ⟨by repeat (first | (with_reducible first | exact HK.out | apply KeepBut.set_ | apply keep_drewN | apply keep_drew | apply keep_alloc | refine keep_far ?_ GW175.out _ | refine keep_far ?_ GW188.out _) | exact HK.out)⟩, ⟨by repeat (first | (with_reducible first | exact HB.out | apply uL | apply uE | apply uK | refine uM ?_ (IsS127.ge HI0.out) | refine uM ?_ GE175.out | refine uM ?_ GE188.out) | exact HB.out)⟩⟩
     ·rw [if_neg c36] at H
      exact absurd H (by simp)
   ·rw [if_neg c25] at H
    have c25b0 : decide (0 < x5_1) = false := decide_eq_false c25
    clear c25
    simp only [Option.some.injEq, Prod.mk.injEq] at H
    obtain ⟨rfl, rfl, rfl, rfl, rfl, rfl⟩ := H
    have hnb51 := NB188_175.out
    have hnc51 := NB175_188.out
    have hnb52 := NB188_0.out
    have hnc52 := NB0_188.out
    have hcz53_0 : wr.cell? ⟨gb188, 0, none⟩ = some (.int .i64 (wrap64 (5 + t176))) := (uF BK188.out 0).trans rfl
    have hcz53_1 : wr.cell? ⟨gb188, 1, none⟩ = some (.int .i64 t182) := (uF BK188.out 1).trans rfl
    have hcz53_2 : wr.cell? ⟨gb188, 2, none⟩ = some (.bool t185) := (uF BK188.out 2).trans rfl
    have hcz53_3 : wr.cell? ⟨gb188, 3, none⟩ = some (u189003) := (uF BK188.out 3).trans rfl
    have hfz53_0 := uI BK188.out 0
    have hfz53_1 := uI BK188.out 1
    have hfz53_2 := uI BK188.out 2
    have hfz53_3 := uI BK188.out 3
    have hnb54 := NB175_0.out
    have hnc54 := NB0_175.out
    have hcz55_0 : wr.cell? ⟨gb175, 0, none⟩ = some (.int .i64 0) := (uF BK175.out 0).trans rfl
    have hcz55_1 : wr.cell? ⟨gb175, 1, none⟩ = some (.int .i64 0) := (uF BK175.out 1).trans rfl
    have hcz55_2 : wr.cell? ⟨gb175, 2, none⟩ = some (.bool false) := (uF BK175.out 2).trans rfl
    have hcz55_3 : wr.cell? ⟨gb175, 3, none⟩ = some (.slice none 0 0) := (uF BK175.out 3).trans rfl
    have hfz55_0 := uI BK175.out 0
    have hfz55_1 := uI BK175.out 1
    have hfz55_2 := uI BK175.out 2
    have hfz55_3 := uI BK175.out 3
    obtain ⟨Ao56, co56, eo56⟩ := Kd.R_slice HO_189003.out
    subst eo56
    go_wp2
    refine bodyPost_ret (results_cell_row rfl _ _ gb175 63 #[.int .i64 (wrap64 (5 + t176)), .int .i64 t182, .bool t185, .slice Ao56 x189003_1.length co56] (0, 0) _ rfl (by (with_reducible repeat (first | refine uH ?_ _ | refine uJ ?_ | refine uG ?_ _)); refine uP (cs := #[.int .i64 (wrap64 (5 + t176)), .int .i64 t182, .bool t185, .slice none 0 0]) ?_ 3 _ rfl; (with_reducible repeat (first | refine uH ?_ _ | refine uJ ?_ | refine uG ?_ _)); refine uP (cs := #[.int .i64 (wrap64 (5 + t176)), .int .i64 t182, .bool false, .slice none 0 0]) ?_ 2 _ rfl; (with_reducible repeat (first | refine uH ?_ _ | refine uJ ?_ | refine uG ?_ _)); refine uP (cs := #[.int .i64 (wrap64 (5 + t176)), .int .i64 0, .bool false, .slice none 0 0]) ?_ 1 _ rfl; (with_reducible repeat (first | refine uH ?_ _ | refine uJ ?_ | refine uG ?_ _)); refine uP (cs := #[.int .i64 0, .int .i64 0, .bool false, .slice none 0 0]) ?_ 0 _ rfl; (with_reducible repeat (first | refine uH ?_ _ | refine uJ ?_ | refine uG ?_ _)); exact BK175.out) Try.underlying63 rfl (by kernel_rfl)) rfl ?_
    exact ⟨_, by first | rfl | (simp [errW_none, errW_some] <;> rfl) | (simp [*, errW_none, errW_some] <;> rfl), by (with_reducible repeat (first | apply uU | apply uS | apply uT)); exact uX (uV (p := ⟨gb175, 3, none⟩) (uV (p := ⟨gb175, 2, none⟩) (uV (p := ⟨gb175, 1, none⟩) (uV (p := ⟨gb175, 0, none⟩) (uW HO_189003.out BK175.out (by decide)) (fun _ hk => hk.2) (.int .i64 (wrap64 (5 + t176)))) (fun _ hk => hk.2) (.int .i64 t182)) (fun _ hk => hk.2) (.bool t185)) (fun _ hk => hk.2) (.slice Ao56 x189003_1.length co56)) (fun _ hk => trivial), by repeat (first | (with_reducible first | exact HI0.out | apply IsS127.alloc | apply IsS127.drewN | apply IsS127.drew | apply IsS127.set_1 | apply IsS127.set_2 | refine IsS127.far ?_ NB0_175.out _ | refine IsS127.far ?_ NB0_188.out _) | exact HI0.out), by repeat (first | (with_reducible first | exact HB.out | apply uL | apply uE | apply uK | refine uM ?_ (IsS127.ge HI0.out) | refine uM ?_ GE175.out | refine uM ?_ GE188.out) | exact HB.out), by repeat (first | (with_reducible first | exact HK.out | apply KeepBut.set_ | apply keep_drewN | apply keep_drew | apply keep_alloc | refine keep_far ?_ GW175.out _ | refine keep_far ?_ GW188.out _) | exact HK.out)⟩

/-! ### spec_DrawBelt: function 44 -/
def spec_DrawBelt.f (k : Nat) (l0 : List Int) : Option (Int × Int × Bool × (List (S74))) := (spec_l01New.f k l0).bind fun bt214 => ((spec_l02Belt.f k bt214.1 bt214.2.1 bt214.2.2).bind fun bt218 => (some (bt218.1, bt218.2.1, bt218.2.2.1, bt218.2.2.2.1)))
theorem spec_DrawBelt.mono : ∀ a0 k, LeO (spec_DrawBelt.f k a0) (spec_DrawBelt.f (k + 1) a0) := by
 intro a0 k
 unfold spec_DrawBelt.f
 repeat' first
   | (with_reducible exact spec_l01New.mono _ _)
   | (with_reducible exact spec_l02Belt.mono _ _ _ _)
   | (with_reducible exact LeO.refl _)
   | (with_reducible exact LeO.none _)
   | (with_reducible refine LeO.ite ?_ ?_)
   | (with_reducible refine LeO.bind ?_ (fun _ => ?_))
   | exact spec_l01New.mono _ _
   | exact spec_l02Belt.mono _ _ _ _
   | exact LeO.none _
   | refine LeO.ite ?_ ?_
   | refine LeO.bind ?_ (fun _ => ?_)
set_option maxHeartbeats 8000000 in
set_option maxRecDepth 100000 in
theorem spec_DrawBelt.calls (k : Nat) (A0 : Option Addr) (c0 : Nat) (l0 : List Int) (r1 : Int) (r2 : Int) (r3 : Bool) (r4 : List (S74)) (w : World) (hr0 : Kd.C (Kd.int .u8) w A0 l0.length l0) (hc0 : l0.length ≤ c0) (h : spec_DrawBelt.f k l0 = some (r1, r2, r3, r4)) :
  Calls Try.prog 44 #[.slice A0 l0.length c0] w fun e w' => ∃ v3_ : Value, e = .returned (.agg #[.int .i64 r1, .int .i64 r2, .bool r3, v3_]) ∧ Kd.R k74 74 w' w.heap.size (fun _ => True) v3_ r4 ∧ Below w.heap.size w w' := by
 have hu63 := Try.underlying63
 have HR0 := uD hr0
 have HC0 := uD hc0
 clear hr0 hc0
 have HB := uD (Below.refl w.heap.size w)
 have H : ((spec_l01New.f k l0).bind fun bt214 => ((spec_l02Belt.f k bt214.1 bt214.2.1 bt214.2.2).bind fun bt218 => (some (bt218.1, bt218.2.1, bt218.2.2.1, bt218.2.2.2.1)))) = some (r1, r2, r3, r4) := h
 clear h
 replace H := Option.bind_eq_some_iff.mp H
 obtain ⟨⟨t214, t215, t216⟩, A20, H⟩ := H
 replace H : ((spec_l02Belt.f k t214 t215 t216).bind fun bt218 => (some (bt218.1, bt218.2.1, bt218.2.2.1, bt218.2.2.2.1))) = some (r1, r2, r3, r4) := H
 have A2 := uD A20
 clear A20
 replace H := Option.bind_eq_some_iff.mp H
 obtain ⟨⟨t218, t219, t220, t221, t224, t225⟩, A30, H⟩ := H
 replace H : (some (t218, t219, t220, t221)) = some (r1, r2, r3, r4) := H
 have A3 := uD A30
 clear A30
 simp only [Option.some.injEq, Prod.mk.injEq] at H
 obtain ⟨rfl, rfl, rfl, rfl⟩ := H
 go_enter Try.func44, Try.ntmps44
 go_wp2_with (first | ((with_reducible refine gate_dst (N := 2) rfl ?_); refine box_event ?hg (N := 2) ?hd (cs := #[.int .i64 0, .int .i64 0, .bool false, .slice none 0 0]) (t := 63) ?hr ?_; (case hd => rfl); (case hg => rfl); (case hr => first | (go_simp; done) | (go_simp; rfl)); intro gb213 hg w4 hbox hb; have n0_ := uD (uO (by repeat (first | (with_reducible first | exact HB.out | apply uL | apply uE | apply uK) | exact HB.out)) hb); have n1_ := uD (hbox); have n2_ := uD ((by rw [hg]; exact (uN (by repeat (first | (with_reducible first | exact HB.out | apply uL | apply uE | apply uK) | exact HB.out))) : w.heap.size ≤ gb213)); have n3_ := uD ((by rw [hg]; exact (uN (by repeat (first | (with_reducible first | exact HB.out | apply uL | apply uE | apply uK) | exact HB.out))) : w.heap.size ≤ gb213)); clear HB; have HB := n0_; have BK213 := n1_; have GW213 := n2_; have GE213 := n3_; clear n0_ n1_ n2_ n3_; clear hb hbox hg) | ((with_reducible refine gate_callee (f := 71) rfl ?_); refine goesL_ (some 4) rfl rfl Try.func71 (by kernel_rfl) rfl #[.slice A0 l0.length c0] rfl (by (try simp only [List.map_toArray, List.map_cons, List.map_nil]); first | done | rfl | (simp only [List.length_drop, List.length_take]; rfl)) ?_; (with_reducible refine (spec_l01New.calls k _ _ l0 t214 t215 t216 w _ ?side1 ?side2 ?side3 A2.out).mono ?_); (case side1 => repeat (first | (with_reducible first | exact HB.out | apply uL | apply uE | apply uK | refine uM ?_ GE213.out) | exact HB.out)); (case side2 => exact HR0.out); (case side3 => exact HC0.out); rintro e w5 ⟨g217, rfl, hi, hb, hb2⟩; refine ⟨_, rfl, ?_⟩; have n0_ := uD (blk_below (g := gb213) (o := .cells #[.int .i64 0, .int .i64 0, .bool false, .slice none 0 0] 63 (0, 0)) (by (with_reducible repeat (first | refine uH ?_ _ | refine uJ ?_ | refine uG ?_ _)); exact BK213.out) hb2); have n1_ := uD (hb); have n2_ := uD (hi); have n3_ := uD (IsS127.ne_blk hi (blk_below (g := gb213) (o := .cells #[.int .i64 0, .int .i64 0, .bool false, .slice none 0 0] 63 (0, 0)) (by (with_reducible repeat (first | refine uH ?_ _ | refine uJ ?_ | refine uG ?_ _)); exact BK213.out) hb2) (by decide)); have n4_ := uD (Ne.symm (IsS127.ne_blk hi (blk_below (g := gb213) (o := .cells #[.int .i64 0, .int .i64 0, .bool false, .slice none 0 0] 63 (0, 0)) (by (with_reducible repeat (first | refine uH ?_ _ | refine uJ ?_ | refine uG ?_ _)); exact BK213.out) hb2) (by decide))); clear BK213; clear HB; have BK213 := n0_; have HB := n1_; have HI217 := n2_; have NB217_213 := n3_; have NB213_217 := n4_; clear n0_ n1_ n2_ n3_ n4_; (try clear hb); (try clear hb2); (try clear hk); (try clear hi)) | ((with_reducible refine gate_callee (f := 82) rfl ?_); refine goesL_ (some 5) rfl rfl Try.func82 (by kernel_rfl) rfl #[.pointer (some ⟨g217, 0, none⟩)] rfl (by (try simp only [List.map_toArray, List.map_cons, List.map_nil]); first | done | rfl | (simp only [List.length_drop, List.length_take]; rfl)) ?_; (with_reducible refine (spec_l02Belt.calls k g217 t214 t215 t216 t218 t219 t220 t221 t224 t225 w _ ?side1 ?side2 A3.out).mono ?_); (case side1 => repeat (first | (with_reducible first | exact HI217.out | apply IsS127.alloc | apply IsS127.drewN | apply IsS127.drew | apply IsS127.set_1 | apply IsS127.set_2 | refine IsS127.far ?_ NB217_213.out _) | exact HI217.out)); (case side2 => repeat (first | (with_reducible first | exact HB.out | apply uL | apply uE | apply uK | refine uM ?_ (IsS127.ge HI217.out) | refine uM ?_ GE213.out) | exact HB.out)); rintro e w6 ⟨v222, rfl, ho0, hi, hb, hk⟩; refine ⟨_, rfl, ?_⟩; have n0_ := uD (KeepBut.blk hk (g' := gb213) (o := .cells #[.int .i64 0, .int .i64 0, .bool false, .slice none 0 0] 63 (0, 0)) (by (with_reducible repeat (first | refine uH ?_ _ | refine uJ ?_ | refine uG ?_ _)); exact BK213.out) NB213_217.out (by simp)); have n1_ := uD (Kd.R_lower ho0 (uN (by repeat (first | (with_reducible first | exact HB.out | apply uL | apply uE | apply uK | refine uM ?_ (IsS127.ge HI217.out) | refine uM ?_ GE213.out) | exact HB.out)))); have n2_ := uD (hb); have n3_ := uD (hi); clear BK213; clear HB; clear HI217; have BK213 := n0_; have HO223 := n1_; have HB := n2_; have HI217 := n3_; clear n0_ n1_ n2_ n3_; (try clear hb); (try clear hb2); (try clear hk); (try clear hi); (try clear ho0); have hnb7 := NB213_217.out; have hnc7 := NB217_213.out; have hcz8_0 : w6.cell? ⟨gb213, 0, none⟩ = some (.int .i64 0) := (uF BK213.out 0).trans rfl; have hcz8_1 : w6.cell? ⟨gb213, 1, none⟩ = some (.int .i64 0) := (uF BK213.out 1).trans rfl; have hcz8_2 : w6.cell? ⟨gb213, 2, none⟩ = some (.bool false) := (uF BK213.out 2).trans rfl; have hcz8_3 : w6.cell? ⟨gb213, 3, none⟩ = some (.slice none 0 0) := (uF BK213.out 3).trans rfl; have hfz8_0 := uI BK213.out 0; have hfz8_1 := uI BK213.out 1; have hfz8_2 := uI BK213.out 2; have hfz8_3 := uI BK213.out 3; obtain ⟨Ao9, co9, eo9⟩ := Kd.R_slice HO223.out; subst eo9))
 refine bodyPost_ret (results_cell_row rfl _ _ gb213 63 #[.int .i64 t218, .int .i64 t219, .bool t220, .slice Ao9 t221.length co9] (0, 0) _ rfl (by (with_reducible repeat (first | refine uH ?_ _ | refine uJ ?_ | refine uG ?_ _)); refine uP (cs := #[.int .i64 t218, .int .i64 t219, .bool t220, .slice none 0 0]) ?_ 3 _ rfl; (with_reducible repeat (first | refine uH ?_ _ | refine uJ ?_ | refine uG ?_ _)); refine uP (cs := #[.int .i64 t218, .int .i64 t219, .bool false, .slice none 0 0]) ?_ 2 _ rfl; (with_reducible repeat (first | refine uH ?_ _ | refine uJ ?_ | refine uG ?_ _)); refine uP (cs := #[.int .i64 t218, .int .i64 0, .bool false, .slice none 0 0]) ?_ 1 _ rfl; (with_reducible repeat (first | refine uH ?_ _ | refine uJ ?_ | refine uG ?_ _)); refine uP (cs := #[.int .i64 0, .int .i64 0, .bool false, .slice none 0 0]) ?_ 0 _ rfl; (with_reducible repeat (first | refine uH ?_ _ | refine uJ ?_ | refine uG ?_ _)); exact BK213.out) Try.underlying63 rfl (by kernel_rfl)) rfl ?_
 exact ⟨_, by first | rfl | (simp [errW_none, errW_some] <;> rfl) | (simp [*, errW_none, errW_some] <;> rfl), by (with_reducible repeat (first | apply uU | apply uS | apply uT)); exact uX (uV (p := ⟨gb213, 3, none⟩) (uV (p := ⟨gb213, 2, none⟩) (uV (p := ⟨gb213, 1, none⟩) (uV (p := ⟨gb213, 0, none⟩) (uW HO223.out BK213.out (by decide)) (fun _ hk => hk.2) (.int .i64 t218)) (fun _ hk => hk.2) (.int .i64 t219)) (fun _ hk => hk.2) (.bool t220)) (fun _ hk => hk.2) (.slice Ao9 t221.length co9)) (fun _ hk => trivial), by repeat (first | (with_reducible first | exact HB.out | apply uL | apply uE | apply uK | refine uM ?_ (IsS127.ge HI217.out) | refine uM ?_ GE213.out) | exact HB.out)⟩

end Go.Proofs.Ytnnimbbffbfhoaa.PFnWindows
