-- Written by a program of this session (wip/myprint.py: the kit's print with changes): not by print.sh itself.
import Derived.Test.YtnnimbbffbfhoaaPFnWindowsx0
import Derived.Test.YtnnimbbffbfhoaaPFnWindowsx2
import Derived.Test.YtnnimbbffbfhoaaPFnWindowsx3
import Derived.Test.YtnnimbbffbfhoaaPFnWindowsx10
import Derived.Test.YtnnimbbffbfhoaaPFnWindowsx11
namespace Go.Proofs.Ytnnimbbffbfhoaa.PFnWindows
open Go.RowKit Go.Proofs.YtnnimbbffbfhoaaW.PrintWords Go.Proofs.YtnnimbbffbfhoaaW.PrintLast Go.Proofs.YtnnimbbffbfhoaaW.PrintMore
open Go renaming Act.put → uc
open Go.Proofs.YtnnimbbffbfhoaaW.PrintLast renaming i64_w → uZ
open Go.Proofs.YtnnimbbffbfhoaaW.PrintWords renaming Aside0.mk → uD, pw_below_drewN → uE, blk_cell → uF, blk_alloc → uG, blk_drewN → uH, blk_frozen → uI, blk_drew → uJ, below_drew1 → uK, below_alloc → uL, below_set → uM, below_size → uN, below_step → uO, blk_put → uP, blk_far → uQ, results_ct → uR, Kd.R_drewN → uS, Kd.R_drew → uT, Kd.R_alloc → uU, Kd.R_far → uV, Kd.R_types → uW, Kd.R_mono → uX
open List renaming setIfInBounds_toArray → uA, set_cons_zero → uB, set_cons_succ → uC
attribute [local go_sem] max2_int min2_int max_two min_two max_three min_three max_four min_four   -- for this text's walks alone
set_option linter.unusedVariables false
set_option linter.unusedSimpArgs false

/-! ### spec_l02Step: function 86 -/
def spec_l02Step.l0 : Nat → List (S74) → Int → Int → Int → Bool → List (S74) → Option (Int × Int × Bool × (List (S74)))
 | 0, _, _, _, _, _, _ => none
 | k + 1, x3, x4, x271000, x271001, x271002, x271003 => if x4 < (x3.length : Int) then (if x4 > 0 then (if 0 ≤ (wrap64 (x4 - 1)) then (if (wrap64 (x4 - 1)) < (x3.length : Int) then (if 0 ≤ x4 then (if ((rd_T74 x3 x4).f1) < (wrap64 ((wrap64 (((rd_T74 x3 (wrap64 (x4 - 1))).f1) - ((rd_T74 x3 (wrap64 (x4 - 1))).f2))) - x271001)) then (spec_l02Step.l0 k (x3.set (x4 : Int).toNat (⟨(rd_T74 x3 x4).f0, wrap64 (((rd_T74 x3 x4).f1) + 1), (rd_T74 x3 x4).f2⟩ : S74)) (wrap64 (x4 + 1)) x271000 x271001 x271002 x271003) else (spec_l02Step.l0 k x3 (wrap64 (x4 + 1)) x271000 x271001 x271002 x271003)) else (none)) else (none)) else (none)) else (if 0 ≤ x4 then (if ((rd_T74 x3 x4).f1) < x271000 then (spec_l02Step.l0 k (x3.set (x4 : Int).toNat (⟨(rd_T74 x3 x4).f0, wrap64 (((rd_T74 x3 x4).f1) + 1), (rd_T74 x3 x4).f2⟩ : S74)) (wrap64 (x4 + 1)) x271000 x271001 x271002 x271003) else (spec_l02Step.l0 k x3 (wrap64 (x4 + 1)) x271000 x271001 x271002 x271003)) else (none))) else (some (x271000, x271001, x271002, x3))
def spec_l02Step.f (k : Nat) (a0_0 : Int) (a0_1 : Int) (a0_2 : Bool) (l0_3 : List (S74)) : Option (Int × Int × Bool × (List (S74))) := (some (([] : List (S74)) : List (S74))).bind fun y272 => (if y272.length + l0_3.length < 5864062014805 then (spec_l02Step.l0 k (y272 ++ l0_3) 0 a0_0 a0_1 a0_2 l0_3) else (none))
theorem spec_l02Step.mono_l : ∀ k, (∀ y0 y1 y2 y3 y4 y5, LeO (spec_l02Step.l0 k y0 y1 y2 y3 y4 y5) (spec_l02Step.l0 (k + 1) y0 y1 y2 y3 y4 y5))
 | 0 => fun _ _ _ _ _ _ r h => by simp [spec_l02Step.l0] at h
 | k + 1 => by
  have ih0 := spec_l02Step.mono_l k
  ·intro y0 y1 y2 y3 y4 y5
   unfold spec_l02Step.l0
   repeat' first
   | (with_reducible exact ih0 _ _ _ _ _ _)
   | (with_reducible exact LeO.refl _)
   | (with_reducible exact LeO.none _)
   | (with_reducible refine LeO.ite ?_ ?_)
   | (with_reducible refine LeO.bind ?_ (fun _ => ?_))
   | exact ih0 _ _ _ _ _ _
   | exact LeO.none _
   | refine LeO.ite ?_ ?_
   | refine LeO.bind ?_ (fun _ => ?_)
theorem spec_l02Step.mono : ∀ a0 a1 a2 a3 k, LeO (spec_l02Step.f k a0 a1 a2 a3) (spec_l02Step.f (k + 1) a0 a1 a2 a3) := by
 intro a0 a1 a2 a3 k
 have ih0 := spec_l02Step.mono_l k
 unfold spec_l02Step.f
 repeat' first
   | (with_reducible exact ih0 _ _ _ _ _ _)
   | (with_reducible exact LeO.refl _)
   | (with_reducible exact LeO.none _)
   | (with_reducible refine LeO.ite ?_ ?_)
   | (with_reducible refine LeO.bind ?_ (fun _ => ?_))
   | exact ih0 _ _ _ _ _ _
   | exact LeO.none _
   | refine LeO.ite ?_ ?_
   | refine LeO.bind ?_ (fun _ => ?_)
set_option maxHeartbeats 8000000 in
set_option maxRecDepth 100000 in
theorem spec_l02Step.calls (k : Nat) (a0_0 : Int) (a0_1 : Int) (a0_2 : Bool) (A0_3 : Option Addr) (c0_3 : Nat) (l0_3 : List (S74)) (r1 : Int) (r2 : Int) (r3 : Bool) (r4 : List (S74)) (w : World) (hr0_3 : Kd.C k74 w A0_3 l0_3.length l0_3) (hc0_3 : l0_3.length ≤ c0_3) (h : spec_l02Step.f k a0_0 a0_1 a0_2 l0_3 = some (r1, r2, r3, r4)) :
  Calls Try.prog 86 #[.agg #[.int .i64 a0_0, .int .i64 a0_1, .bool a0_2, .slice A0_3 l0_3.length c0_3]] w fun e w' => ∃ v3_ : Value, e = .returned (.agg #[.int .i64 r1, .int .i64 r2, .bool r3, v3_]) ∧ Kd.R k74 74 w' w.heap.size (fun _ => True) v3_ r4 ∧ Below w.heap.size w w' := by
 have hu63 := Try.underlying63
 have HR0_3 := uD hr0_3
 have HC0_3 := uD hc0_3
 clear hr0_3 hc0_3
 have HB := uD (Below.refl w.heap.size w)
 have H : ((some (([] : List (S74)) : List (S74))).bind fun y272 => (if y272.length + l0_3.length < 5864062014805 then (spec_l02Step.l0 k (y272 ++ l0_3) 0 a0_0 a0_1 a0_2 l0_3) else (none))) = some (r1, r2, r3, r4) := h
 clear h
 obtain ⟨y272, hy272⟩ : ∃ y_ : List (S74), y_ = (([] : List (S74))) := ⟨_, rfl⟩
 replace H : (if y272.length + l0_3.length < 5864062014805 then (spec_l02Step.l0 k (y272 ++ l0_3) 0 a0_0 a0_1 a0_2 l0_3) else (none)) = some (r1, r2, r3, r4) := by first | (rw [hy272]; with_reducible exact H) | (have H2_ := (Option.bind_some _ _).symm.trans H; rw [hy272]; with_reducible exact H2_) | (have H2_ := (Option.bind_some _ _).symm.trans H; with_reducible exact H2_) | with_reducible exact H | (rw [hy272]; exact H) | exact H
 have Ny272 := uD hy272
 clear hy272
 by_cases c2 : y272.length + l0_3.length < 5864062014805
 ·rw [if_pos c2] at H
  have LMc2 := uD c2
  clear c2
  obtain ⟨y275, hy275⟩ : ∃ y_ : List (S74), y_ = (y272 ++ l0_3) := ⟨_, rfl⟩
  replace H : (spec_l02Step.l0 k y275 0 a0_0 a0_1 a0_2 l0_3) = some (r1, r2, r3, r4) := by first | (rw [hy275]; with_reducible exact H) | (have H2_ := (Option.bind_some _ _).symm.trans H; rw [hy275]; with_reducible exact H2_) | (have H2_ := (Option.bind_some _ _).symm.trans H; with_reducible exact H2_) | with_reducible exact H | (rw [hy275]; exact H) | exact H
  have Ny275 := uD hy275
  clear hy275
  have H' := uD H
  clear H
  go_enter Try.func86, Try.ntmps86
  go_wp2_with (first | ((with_reducible refine gate_dst (N := 1) rfl ?_); refine box_event ?hg (N := 1) ?hd (cs := #[.int .i64 a0_0, .int .i64 a0_1, .bool a0_2, .slice A0_3 l0_3.length c0_3]) (t := 63) ?hr ?_; (case hd => rfl); (case hg => rfl); (case hr => first | (go_simp; done) | (go_simp; rfl)); intro gb270 hg w3 hbox hb; have n0_ := uD (uO (by repeat (first | (with_reducible first | exact HB.out | apply uL | apply uE | apply uK) | exact HB.out)) hb); have n1_ := uD (hbox); have n2_ := uD ((by rw [hg]; exact (uN (by repeat (first | (with_reducible first | exact HB.out | apply uL | apply uE | apply uK) | exact HB.out))) : w.heap.size ≤ gb270)); have n3_ := uD ((by rw [hg]; exact (uN (by repeat (first | (with_reducible first | exact HB.out | apply uL | apply uE | apply uK) | exact HB.out))) : w.heap.size ≤ gb270)); clear HB; have HB := n0_; have BK270 := n1_; have GW270 := n2_; have GE270 := n3_; clear n0_ n1_ n2_ n3_; clear hb hbox hg) | ((with_reducible refine gate_dst (N := 2) rfl ?_); refine box_event ?hg (N := 2) ?hd (cs := #[.int .i64 0, .int .i64 0, .bool false, .slice none 0 0]) (t := 63) ?hr ?_; (case hd => rfl); (case hg => rfl); (case hr => first | (go_simp; done) | (go_simp; rfl)); intro gb271 hg w4 hbox hb; have n0_ := uD (blk_below (g := gb270) (o := .cells #[.int .i64 a0_0, .int .i64 a0_1, .bool a0_2, .slice A0_3 l0_3.length c0_3] 63 (0, 0)) (by (with_reducible repeat (first | refine uH ?_ _ | refine uJ ?_ | refine uG ?_ _)); exact BK270.out) hb); have n1_ := uD (uO (by repeat (first | (with_reducible first | exact HB.out | apply uL | apply uE | apply uK | refine uM ?_ GE270.out) | exact HB.out)) hb); have n2_ := uD (hbox); have n3_ := uD ((by rw [hg]; exact (uN (by repeat (first | (with_reducible first | exact HB.out | apply uL | apply uE | apply uK | refine uM ?_ GE270.out) | exact HB.out))) : w.heap.size ≤ gb271)); have n4_ := uD ((by rw [hg]; exact (uN (by repeat (first | (with_reducible first | exact HB.out | apply uL | apply uE | apply uK | refine uM ?_ GE270.out) | exact HB.out))) : w.heap.size ≤ gb271)); have n5_ := uD ((by rw [hg]; exact Nat.ne_of_lt (blk_lt (g := gb270) (o := .cells #[.int .i64 a0_0, .int .i64 a0_1, .bool a0_2, .slice A0_3 l0_3.length c0_3] 63 (0, 0)) (by (with_reducible repeat (first | refine uH ?_ _ | refine uJ ?_ | refine uG ?_ _)); exact BK270.out)) : gb270 ≠ gb271)); have n6_ := uD ((by rw [hg]; exact Nat.ne_of_gt (blk_lt (g := gb270) (o := .cells #[.int .i64 a0_0, .int .i64 a0_1, .bool a0_2, .slice A0_3 l0_3.length c0_3] 63 (0, 0)) (by (with_reducible repeat (first | refine uH ?_ _ | refine uJ ?_ | refine uG ?_ _)); exact BK270.out)) : gb271 ≠ gb270)); clear BK270; clear HB; have BK270 := n0_; have HB := n1_; have BK271 := n2_; have GW271 := n3_; have GE271 := n4_; have NB270_271 := n5_; have NB271_270 := n6_; clear n0_ n1_ n2_ n3_ n4_ n5_ n6_; clear hb hbox hg) | ((with_reducible refine gate_dst (N := 6) rfl ?_); refine Kd.R_lit k74 _ 74 ?hg (N := 6) ?hd (xs := ([] : List (S74))) (inner := []) (ok := fun _ => True) (okp := fun _ => True) ?hr ?hp (fun _ hk => hk) trivial (Below.refl _ _) (Nat.le_refl _) (by simp) ?_; (case hd => rfl); (case hg => rfl); (case hr => first | (go_simp; done) | (go_simp; rfl)); (case hp => exact (Reps.none _ _)); intro v273 w5 ho6 hb hg_ hnew_; clear hg_ hnew_; (first | rw [← Ny272.out] at ho6 | (simp only [Int.reduceToNat] at ho6; rw [← Ny272.out] at ho6)); have n0_ := uD (Kd.R_lower ho6 (uN (by repeat (first | (with_reducible first | exact HB.out | apply uL | apply uE | apply uK | refine uM ?_ GE270.out | refine uM ?_ GE271.out) | exact HB.out)))); have n1_ := uD (blk_below (g := gb270) (o := .cells #[.int .i64 a0_0, .int .i64 a0_1, .bool a0_2, .slice A0_3 l0_3.length c0_3] 63 (0, 0)) (by (with_reducible repeat (first | refine uH ?_ _ | refine uJ ?_ | refine uG ?_ _)); exact BK270.out) hb); have n2_ := uD (blk_below (g := gb271) (o := .cells #[.int .i64 0, .int .i64 0, .bool false, .slice none 0 0] 63 (0, 0)) (by (with_reducible repeat (first | refine uH ?_ _ | refine uJ ?_ | refine uG ?_ _)); exact BK271.out) hb); have n3_ := uD (uO (by repeat (first | (with_reducible first | exact HB.out | apply uL | apply uE | apply uK | refine uM ?_ GE270.out | refine uM ?_ GE271.out) | exact HB.out)) hb); clear BK270; clear BK271; clear HB; have HO274 := n0_; have BK270 := n1_; have BK271 := n2_; have HB := n3_; clear n0_ n1_ n2_ n3_; clear hb ho6; have hnb7 := NB270_271.out; have hnc7 := NB271_270.out; have hcz8_0 : w5.cell? ⟨gb270, 0, none⟩ = some (.int .i64 a0_0) := (uF BK270.out 0).trans rfl; have hcz8_1 : w5.cell? ⟨gb270, 1, none⟩ = some (.int .i64 a0_1) := (uF BK270.out 1).trans rfl; have hcz8_2 : w5.cell? ⟨gb270, 2, none⟩ = some (.bool a0_2) := (uF BK270.out 2).trans rfl; have hcz8_3 : w5.cell? ⟨gb270, 3, none⟩ = some (.slice A0_3 l0_3.length c0_3) := (uF BK270.out 3).trans rfl; have hfz8_0 := uI BK270.out 0; have hfz8_1 := uI BK270.out 1; have hfz8_2 := uI BK270.out 2; have hfz8_3 := uI BK270.out 3) | ((with_reducible refine gate_builtin (b := .append) (xs := #[.tmp 6, .tmp 8]) rfl ?_); at_builtin; refine Kd.R_append_rows k74 (w0 := w) w.heap.size rfl (.tmp 6) (.tmp 8) 61 74 (.agg #[(.int .i64 0), (.int .i64 0), (.int .i64 0)]) 24 rfl Try.underlying61 info74 rfl (by decide) (by omega) v273 y272 l0_3 _ _ _ (fun _ => True) (fun _ => False) rfl rfl ?aO ?aR (fun _ _ h => h) (fun _ h => h.elim) ?aF ?aB ?aS ?aL ?_; (case aR => repeat (first | exact (Kd.C_below HR0_3.out HB.out) | (with_reducible refine Kd.C_alloc ?_ _) | (with_reducible refine Kd.C_drewN ?_ _) | (with_reducible refine Kd.C_drew ?_))); (case aB => exact (by repeat (first | (with_reducible first | exact HB.out | apply uL | apply uE | apply uK | refine uM ?_ GE270.out | refine uM ?_ GE271.out) | exact HB.out))); (case aF => exact (fun _ _ => trivial)); (case aO => exact (by (with_reducible repeat (first | apply uU | apply uS | apply uT)); exact HO274.out)); (case aS => exact (uN (by repeat (first | (with_reducible first | exact HB.out | apply uL | apply uE | apply uK | refine uM ?_ GE270.out | refine uM ?_ GE271.out) | exact HB.out)))); (case aL => have := LMc2.out; omega); intro v276 w9 ho hb hg hat; rw [← Ny275.out] at ho; have n0_ := uD (blk_grown (g := gb270) (o := .cells #[.int .i64 a0_0, .int .i64 a0_1, .bool a0_2, .slice A0_3 l0_3.length c0_3] 63 (0, 0)) (by (with_reducible repeat (first | refine uH ?_ _ | refine uJ ?_ | refine uG ?_ _)); exact BK270.out) hg (Kd.R_ne HO274.out BK270.out (by decide))); have n1_ := uD (blk_grown (g := gb271) (o := .cells #[.int .i64 0, .int .i64 0, .bool false, .slice none 0 0] 63 (0, 0)) (by (with_reducible repeat (first | refine uH ?_ _ | refine uJ ?_ | refine uG ?_ _)); exact BK271.out) hg (Kd.R_ne HO274.out BK271.out (by decide))); have n2_ := uD (hb); have n3_ := uD (ho); clear BK270; clear BK271; clear HB; clear HO274; have BK270 := n0_; have BK271 := n1_; have HB := n2_; have HO277 := n3_; clear n0_ n1_ n2_ n3_; clear ho hb hg hat))
  repeat (go_quiet (first | ((with_reducible refine gate_dst (N := 1) rfl ?_); refine box_event ?hg (N := 1) ?hd (cs := #[.int .i64 a0_0, .int .i64 a0_1, .bool a0_2, .slice A0_3 l0_3.length c0_3]) (t := 63) ?hr ?_; (case hd => rfl); (case hg => rfl); (case hr => first | (go_simp; done) | (go_simp; rfl)); intro gb270 hg w3 hbox hb; have n0_ := uD (uO (by repeat (first | (with_reducible first | exact HB.out | apply uL | apply uE | apply uK) | exact HB.out)) hb); have n1_ := uD (hbox); have n2_ := uD ((by rw [hg]; exact (uN (by repeat (first | (with_reducible first | exact HB.out | apply uL | apply uE | apply uK) | exact HB.out))) : w.heap.size ≤ gb270)); have n3_ := uD ((by rw [hg]; exact (uN (by repeat (first | (with_reducible first | exact HB.out | apply uL | apply uE | apply uK) | exact HB.out))) : w.heap.size ≤ gb270)); clear HB; have HB := n0_; have BK270 := n1_; have GW270 := n2_; have GE270 := n3_; clear n0_ n1_ n2_ n3_; clear hb hbox hg) | ((with_reducible refine gate_dst (N := 2) rfl ?_); refine box_event ?hg (N := 2) ?hd (cs := #[.int .i64 0, .int .i64 0, .bool false, .slice none 0 0]) (t := 63) ?hr ?_; (case hd => rfl); (case hg => rfl); (case hr => first | (go_simp; done) | (go_simp; rfl)); intro gb271 hg w4 hbox hb; have n0_ := uD (blk_below (g := gb270) (o := .cells #[.int .i64 a0_0, .int .i64 a0_1, .bool a0_2, .slice A0_3 l0_3.length c0_3] 63 (0, 0)) (by (with_reducible repeat (first | refine uH ?_ _ | refine uJ ?_ | refine uG ?_ _)); exact BK270.out) hb); have n1_ := uD (uO (by repeat (first | (with_reducible first | exact HB.out | apply uL | apply uE | apply uK | refine uM ?_ GE270.out) | exact HB.out)) hb); have n2_ := uD (hbox); have n3_ := uD ((by rw [hg]; exact (uN (by repeat (first | (with_reducible first | exact HB.out | apply uL | apply uE | apply uK | refine uM ?_ GE270.out) | exact HB.out))) : w.heap.size ≤ gb271)); have n4_ := uD ((by rw [hg]; exact (uN (by repeat (first | (with_reducible first | exact HB.out | apply uL | apply uE | apply uK | refine uM ?_ GE270.out) | exact HB.out))) : w.heap.size ≤ gb271)); have n5_ := uD ((by rw [hg]; exact Nat.ne_of_lt (blk_lt (g := gb270) (o := .cells #[.int .i64 a0_0, .int .i64 a0_1, .bool a0_2, .slice A0_3 l0_3.length c0_3] 63 (0, 0)) (by (with_reducible repeat (first | refine uH ?_ _ | refine uJ ?_ | refine uG ?_ _)); exact BK270.out)) : gb270 ≠ gb271)); have n6_ := uD ((by rw [hg]; exact Nat.ne_of_gt (blk_lt (g := gb270) (o := .cells #[.int .i64 a0_0, .int .i64 a0_1, .bool a0_2, .slice A0_3 l0_3.length c0_3] 63 (0, 0)) (by (with_reducible repeat (first | refine uH ?_ _ | refine uJ ?_ | refine uG ?_ _)); exact BK270.out)) : gb271 ≠ gb270)); clear BK270; clear HB; have BK270 := n0_; have HB := n1_; have BK271 := n2_; have GW271 := n3_; have GE271 := n4_; have NB270_271 := n5_; have NB271_270 := n6_; clear n0_ n1_ n2_ n3_ n4_ n5_ n6_; clear hb hbox hg) | ((with_reducible refine gate_dst (N := 6) rfl ?_); refine Kd.R_lit k74 _ 74 ?hg (N := 6) ?hd (xs := ([] : List (S74))) (inner := []) (ok := fun _ => True) (okp := fun _ => True) ?hr ?hp (fun _ hk => hk) trivial (Below.refl _ _) (Nat.le_refl _) (by simp) ?_; (case hd => rfl); (case hg => rfl); (case hr => first | (go_simp; done) | (go_simp; rfl)); (case hp => exact (Reps.none _ _)); intro v273 w5 ho6 hb hg_ hnew_; clear hg_ hnew_; (first | rw [← Ny272.out] at ho6 | (simp only [Int.reduceToNat] at ho6; rw [← Ny272.out] at ho6)); have n0_ := uD (Kd.R_lower ho6 (uN (by repeat (first | (with_reducible first | exact HB.out | apply uL | apply uE | apply uK | refine uM ?_ GE270.out | refine uM ?_ GE271.out) | exact HB.out)))); have n1_ := uD (blk_below (g := gb270) (o := .cells #[.int .i64 a0_0, .int .i64 a0_1, .bool a0_2, .slice A0_3 l0_3.length c0_3] 63 (0, 0)) (by (with_reducible repeat (first | refine uH ?_ _ | refine uJ ?_ | refine uG ?_ _)); exact BK270.out) hb); have n2_ := uD (blk_below (g := gb271) (o := .cells #[.int .i64 0, .int .i64 0, .bool false, .slice none 0 0] 63 (0, 0)) (by (with_reducible repeat (first | refine uH ?_ _ | refine uJ ?_ | refine uG ?_ _)); exact BK271.out) hb); have n3_ := uD (uO (by repeat (first | (with_reducible first | exact HB.out | apply uL | apply uE | apply uK | refine uM ?_ GE270.out | refine uM ?_ GE271.out) | exact HB.out)) hb); clear BK270; clear BK271; clear HB; have HO274 := n0_; have BK270 := n1_; have BK271 := n2_; have HB := n3_; clear n0_ n1_ n2_ n3_; clear hb ho6; have hnb7 := NB270_271.out; have hnc7 := NB271_270.out; have hcz8_0 : w5.cell? ⟨gb270, 0, none⟩ = some (.int .i64 a0_0) := (uF BK270.out 0).trans rfl; have hcz8_1 : w5.cell? ⟨gb270, 1, none⟩ = some (.int .i64 a0_1) := (uF BK270.out 1).trans rfl; have hcz8_2 : w5.cell? ⟨gb270, 2, none⟩ = some (.bool a0_2) := (uF BK270.out 2).trans rfl; have hcz8_3 : w5.cell? ⟨gb270, 3, none⟩ = some (.slice A0_3 l0_3.length c0_3) := (uF BK270.out 3).trans rfl; have hfz8_0 := uI BK270.out 0; have hfz8_1 := uI BK270.out 1; have hfz8_2 := uI BK270.out 2; have hfz8_3 := uI BK270.out 3) | ((with_reducible refine gate_builtin (b := .append) (xs := #[.tmp 6, .tmp 8]) rfl ?_); at_builtin; refine Kd.R_append_rows k74 (w0 := w) w.heap.size rfl (.tmp 6) (.tmp 8) 61 74 (.agg #[(.int .i64 0), (.int .i64 0), (.int .i64 0)]) 24 rfl Try.underlying61 info74 rfl (by decide) (by omega) v273 y272 l0_3 _ _ _ (fun _ => True) (fun _ => False) rfl rfl ?aO ?aR (fun _ _ h => h) (fun _ h => h.elim) ?aF ?aB ?aS ?aL ?_; (case aR => repeat (first | exact (Kd.C_below HR0_3.out HB.out) | (with_reducible refine Kd.C_alloc ?_ _) | (with_reducible refine Kd.C_drewN ?_ _) | (with_reducible refine Kd.C_drew ?_))); (case aB => exact (by repeat (first | (with_reducible first | exact HB.out | apply uL | apply uE | apply uK | refine uM ?_ GE270.out | refine uM ?_ GE271.out) | exact HB.out))); (case aF => exact (fun _ _ => trivial)); (case aO => exact (by (with_reducible repeat (first | apply uU | apply uS | apply uT)); exact HO274.out)); (case aS => exact (uN (by repeat (first | (with_reducible first | exact HB.out | apply uL | apply uE | apply uK | refine uM ?_ GE270.out | refine uM ?_ GE271.out) | exact HB.out)))); (case aL => have := LMc2.out; omega); intro v276 w9 ho hb hg hat; rw [← Ny275.out] at ho; have n0_ := uD (blk_grown (g := gb270) (o := .cells #[.int .i64 a0_0, .int .i64 a0_1, .bool a0_2, .slice A0_3 l0_3.length c0_3] 63 (0, 0)) (by (with_reducible repeat (first | refine uH ?_ _ | refine uJ ?_ | refine uG ?_ _)); exact BK270.out) hg (Kd.R_ne HO274.out BK270.out (by decide))); have n1_ := uD (blk_grown (g := gb271) (o := .cells #[.int .i64 0, .int .i64 0, .bool false, .slice none 0 0] 63 (0, 0)) (by (with_reducible repeat (first | refine uH ?_ _ | refine uJ ?_ | refine uG ?_ _)); exact BK271.out) hg (Kd.R_ne HO274.out BK271.out (by decide))); have n2_ := uD (hb); have n3_ := uD (ho); clear BK270; clear BK271; clear HB; clear HO274; have BK270 := n0_; have BK271 := n1_; have HB := n2_; have HO277 := n3_; clear n0_ n1_ n2_ n3_; clear ho hb hg hat)); try go_wp2_with (first | ((with_reducible refine gate_dst (N := 1) rfl ?_); refine box_event ?hg (N := 1) ?hd (cs := #[.int .i64 a0_0, .int .i64 a0_1, .bool a0_2, .slice A0_3 l0_3.length c0_3]) (t := 63) ?hr ?_; (case hd => rfl); (case hg => rfl); (case hr => first | (go_simp; done) | (go_simp; rfl)); intro gb270 hg w3 hbox hb; have n0_ := uD (uO (by repeat (first | (with_reducible first | exact HB.out | apply uL | apply uE | apply uK) | exact HB.out)) hb); have n1_ := uD (hbox); have n2_ := uD ((by rw [hg]; exact (uN (by repeat (first | (with_reducible first | exact HB.out | apply uL | apply uE | apply uK) | exact HB.out))) : w.heap.size ≤ gb270)); have n3_ := uD ((by rw [hg]; exact (uN (by repeat (first | (with_reducible first | exact HB.out | apply uL | apply uE | apply uK) | exact HB.out))) : w.heap.size ≤ gb270)); clear HB; have HB := n0_; have BK270 := n1_; have GW270 := n2_; have GE270 := n3_; clear n0_ n1_ n2_ n3_; clear hb hbox hg) | ((with_reducible refine gate_dst (N := 2) rfl ?_); refine box_event ?hg (N := 2) ?hd (cs := #[.int .i64 0, .int .i64 0, .bool false, .slice none 0 0]) (t := 63) ?hr ?_; (case hd => rfl); (case hg => rfl); (case hr => first | (go_simp; done) | (go_simp; rfl)); intro gb271 hg w4 hbox hb; have n0_ := uD (blk_below (g := gb270) (o := .cells #[.int .i64 a0_0, .int .i64 a0_1, .bool a0_2, .slice A0_3 l0_3.length c0_3] 63 (0, 0)) (by (with_reducible repeat (first | refine uH ?_ _ | refine uJ ?_ | refine uG ?_ _)); exact BK270.out) hb); have n1_ := uD (uO (by repeat (first | (with_reducible first | exact HB.out | apply uL | apply uE | apply uK | refine uM ?_ GE270.out) | exact HB.out)) hb); have n2_ := uD (hbox); have n3_ := uD ((by rw [hg]; exact (uN (by repeat (first | (with_reducible first | exact HB.out | apply uL | apply uE | apply uK | refine uM ?_ GE270.out) | exact HB.out))) : w.heap.size ≤ gb271)); have n4_ := uD ((by rw [hg]; exact (uN (by repeat (first | (with_reducible first | exact HB.out | apply uL | apply uE | apply uK | refine uM ?_ GE270.out) | exact HB.out))) : w.heap.size ≤ gb271)); have n5_ := uD ((by rw [hg]; exact Nat.ne_of_lt (blk_lt (g := gb270) (o := .cells #[.int .i64 a0_0, .int .i64 a0_1, .bool a0_2, .slice A0_3 l0_3.length c0_3] 63 (0, 0)) (by (with_reducible repeat (first | refine uH ?_ _ | refine uJ ?_ | refine uG ?_ _)); exact BK270.out)) : gb270 ≠ gb271)); have n6_ := uD ((by rw [hg]; exact Nat.ne_of_gt (blk_lt (g := gb270) (o := .cells #[.int .i64 a0_0, .int .i64 a0_1, .bool a0_2, .slice A0_3 l0_3.length c0_3] 63 (0, 0)) (by (with_reducible repeat (first | refine uH ?_ _ | refine uJ ?_ | refine uG ?_ _)); exact BK270.out)) : gb271 ≠ gb270)); clear BK270; clear HB; have BK270 := n0_; have HB := n1_; have BK271 := n2_; have GW271 := n3_; have GE271 := n4_; have NB270_271 := n5_; have NB271_270 := n6_; clear n0_ n1_ n2_ n3_ n4_ n5_ n6_; clear hb hbox hg) | ((with_reducible refine gate_dst (N := 6) rfl ?_); refine Kd.R_lit k74 _ 74 ?hg (N := 6) ?hd (xs := ([] : List (S74))) (inner := []) (ok := fun _ => True) (okp := fun _ => True) ?hr ?hp (fun _ hk => hk) trivial (Below.refl _ _) (Nat.le_refl _) (by simp) ?_; (case hd => rfl); (case hg => rfl); (case hr => first | (go_simp; done) | (go_simp; rfl)); (case hp => exact (Reps.none _ _)); intro v273 w5 ho6 hb hg_ hnew_; clear hg_ hnew_; (first | rw [← Ny272.out] at ho6 | (simp only [Int.reduceToNat] at ho6; rw [← Ny272.out] at ho6)); have n0_ := uD (Kd.R_lower ho6 (uN (by repeat (first | (with_reducible first | exact HB.out | apply uL | apply uE | apply uK | refine uM ?_ GE270.out | refine uM ?_ GE271.out) | exact HB.out)))); have n1_ := uD (blk_below (g := gb270) (o := .cells #[.int .i64 a0_0, .int .i64 a0_1, .bool a0_2, .slice A0_3 l0_3.length c0_3] 63 (0, 0)) (by (with_reducible repeat (first | refine uH ?_ _ | refine uJ ?_ | refine uG ?_ _)); exact BK270.out) hb); have n2_ := uD (blk_below (g := gb271) (o := .cells #[.int .i64 0, .int .i64 0, .bool false, .slice none 0 0] 63 (0, 0)) (by (with_reducible repeat (first | refine uH ?_ _ | refine uJ ?_ | refine uG ?_ _)); exact BK271.out) hb); have n3_ := uD (uO (by repeat (first | (with_reducible first | exact HB.out | apply uL | apply uE | apply uK | refine uM ?_ GE270.out | refine uM ?_ GE271.out) | exact HB.out)) hb); clear BK270; clear BK271; clear HB; have HO274 := n0_; have BK270 := n1_; have BK271 := n2_; have HB := n3_; clear n0_ n1_ n2_ n3_; clear hb ho6; have hnb7 := NB270_271.out; have hnc7 := NB271_270.out; have hcz8_0 : w5.cell? ⟨gb270, 0, none⟩ = some (.int .i64 a0_0) := (uF BK270.out 0).trans rfl; have hcz8_1 : w5.cell? ⟨gb270, 1, none⟩ = some (.int .i64 a0_1) := (uF BK270.out 1).trans rfl; have hcz8_2 : w5.cell? ⟨gb270, 2, none⟩ = some (.bool a0_2) := (uF BK270.out 2).trans rfl; have hcz8_3 : w5.cell? ⟨gb270, 3, none⟩ = some (.slice A0_3 l0_3.length c0_3) := (uF BK270.out 3).trans rfl; have hfz8_0 := uI BK270.out 0; have hfz8_1 := uI BK270.out 1; have hfz8_2 := uI BK270.out 2; have hfz8_3 := uI BK270.out 3) | ((with_reducible refine gate_builtin (b := .append) (xs := #[.tmp 6, .tmp 8]) rfl ?_); at_builtin; refine Kd.R_append_rows k74 (w0 := w) w.heap.size rfl (.tmp 6) (.tmp 8) 61 74 (.agg #[(.int .i64 0), (.int .i64 0), (.int .i64 0)]) 24 rfl Try.underlying61 info74 rfl (by decide) (by omega) v273 y272 l0_3 _ _ _ (fun _ => True) (fun _ => False) rfl rfl ?aO ?aR (fun _ _ h => h) (fun _ h => h.elim) ?aF ?aB ?aS ?aL ?_; (case aR => repeat (first | exact (Kd.C_below HR0_3.out HB.out) | (with_reducible refine Kd.C_alloc ?_ _) | (with_reducible refine Kd.C_drewN ?_ _) | (with_reducible refine Kd.C_drew ?_))); (case aB => exact (by repeat (first | (with_reducible first | exact HB.out | apply uL | apply uE | apply uK | refine uM ?_ GE270.out | refine uM ?_ GE271.out) | exact HB.out))); (case aF => exact (fun _ _ => trivial)); (case aO => exact (by (with_reducible repeat (first | apply uU | apply uS | apply uT)); exact HO274.out)); (case aS => exact (uN (by repeat (first | (with_reducible first | exact HB.out | apply uL | apply uE | apply uK | refine uM ?_ GE270.out | refine uM ?_ GE271.out) | exact HB.out)))); (case aL => have := LMc2.out; omega); intro v276 w9 ho hb hg hat; rw [← Ny275.out] at ho; have n0_ := uD (blk_grown (g := gb270) (o := .cells #[.int .i64 a0_0, .int .i64 a0_1, .bool a0_2, .slice A0_3 l0_3.length c0_3] 63 (0, 0)) (by (with_reducible repeat (first | refine uH ?_ _ | refine uJ ?_ | refine uG ?_ _)); exact BK270.out) hg (Kd.R_ne HO274.out BK270.out (by decide))); have n1_ := uD (blk_grown (g := gb271) (o := .cells #[.int .i64 0, .int .i64 0, .bool false, .slice none 0 0] 63 (0, 0)) (by (with_reducible repeat (first | refine uH ?_ _ | refine uJ ?_ | refine uG ?_ _)); exact BK271.out) hg (Kd.R_ne HO274.out BK271.out (by decide))); have n2_ := uD (hb); have n3_ := uD (ho); clear BK270; clear BK271; clear HB; clear HO274; have BK270 := n0_; have BK271 := n1_; have HB := n2_; have HO277 := n3_; clear n0_ n1_ n2_ n3_; clear ho hb hg hat)))
  go_loopg [4] k (fun kq v4 w' => ∃ (x3_1 : List (S74)) (x4_1 : Int), v4 = .int .i64 x4_1 ∧ Aside0 (spec_l02Step.l0 kq x3_1 x4_1 a0_0 a0_1 a0_2 l0_3 = some (r1, r2, r3, r4)) ∧ Aside0 (kq ≤ k) ∧ Aside0 (Kd.R k74 74 w' w.heap.size (fun _ => True) v276 x3_1) ∧ Aside0 (w'.heap[gb270]? = some (.cells #[.int .i64 a0_0, .int .i64 a0_1, .bool a0_2, (.slice A0_3 l0_3.length c0_3)] 63 (0, 0))) ∧ Aside0 (w'.heap[gb271]? = some (.cells #[.int .i64 0, .int .i64 0, .bool false, (.slice none 0 0)] 63 (0, 0))) ∧ Aside0 (Below w.heap.size w w'))
  case atStart => exact ⟨(y275), (0), (by first | rfl | (simp; done) | (simp [*]; done)), H', ⟨Nat.le_refl _⟩, ⟨by (with_reducible repeat (first | apply uU | apply uS | apply uT)); exact HO277.out⟩, ⟨by (with_reducible repeat (first | refine uH ?_ _ | refine uJ ?_ | refine uG ?_ _)); exact BK270.out⟩, ⟨by (with_reducible repeat (first | refine uH ?_ _ | refine uJ ?_ | refine uG ?_ _)); exact BK271.out⟩, ⟨by repeat (first | (with_reducible first | exact HB.out | apply uL | apply uE | apply uK | refine uM ?_ GE270.out | refine uM ?_ GE271.out) | exact HB.out)⟩⟩
  case round =>
   clear H'
   try clear c2
   try clear p2
   try clear c7
   try clear c8
   try clear hcz8_0
   try clear hcz8_1
   try clear hcz8_2
   try clear hcz8_3
   try clear hfz8_0
   try clear hfz8_1
   try clear hfz8_2
   try clear hfz8_3
   obtain ⟨x3_1, x4_1, rfl, HA, HK1, HO_3, BK270, BK271, HB⟩ := hrel
   cases gk with
   | zero => exact absurd HA.out (by simp [spec_l02Step.l0])
   | succ k1 =>
    have H := HA.out
    clear HA
    simp only [spec_l02Step.l0] at H
    by_cases c10 : x4_1 < (x3_1.length : Int)
    ·rw [if_pos c10] at H
     have c10b0 : decide (x4_1 < (x3_1.length : Int)) = true := decide_eq_true c10
     clear c10
     by_cases c11 : x4_1 > 0
     ·rw [if_pos c11] at H
      have c11b0 : decide (0 < x4_1) = true := decide_eq_true c11
      clear c11
      obtain ⟨ji12, hji12⟩ : ∃ j_ : Int, (wrap64 (x4_1 - 1)) = j_ := ⟨_, rfl⟩
      replace H : (if 0 ≤ (ji12) then (if (ji12) < (x3_1.length : Int) then (if 0 ≤ x4_1 then (if ((rd_T74 x3_1 x4_1).f1) < (wrap64 ((wrap64 (((rd_T74 x3_1 (ji12)).f1) - ((rd_T74 x3_1 (ji12)).f2))) - a0_1)) then (spec_l02Step.l0 k1 (x3_1.set (x4_1 : Int).toNat (⟨(rd_T74 x3_1 x4_1).f0, wrap64 (((rd_T74 x3_1 x4_1).f1) + 1), (rd_T74 x3_1 x4_1).f2⟩ : S74)) (wrap64 (x4_1 + 1)) a0_0 a0_1 a0_2 l0_3) else (spec_l02Step.l0 k1 x3_1 (wrap64 (x4_1 + 1)) a0_0 a0_1 a0_2 l0_3)) else (none)) else (none)) else (none)) = some (r1, r2, r3, r4) := by first | (rw [hji12] at H; exact H) | (simp only [hji12] at H ⊢; exact H)
      have hji12w : (IntKind.i64.wrap (x4_1 - 1)) = ji12 := (uZ _).trans hji12
      by_cases c13 : 0 ≤ (ji12)
      ·rw [if_pos c13] at H
       have c13b0 : decide (0 ≤ (ji12)) = true := decide_eq_true c13
       clear c13
       by_cases c14 : (ji12) < (x3_1.length : Int)
       ·rw [if_pos c14] at H
        have c14b0 : decide ((ji12) < (x3_1.length : Int)) = true := decide_eq_true c14
        clear c14
        by_cases c15 : 0 ≤ x4_1
        ·rw [if_pos c15] at H
         have c15b0 : decide (0 ≤ x4_1) = true := decide_eq_true c15
         clear c15
         by_cases c16 : ((rd_T74 x3_1 x4_1).f1) < (wrap64 ((wrap64 (((rd_T74 x3_1 (ji12)).f1) - ((rd_T74 x3_1 (ji12)).f2))) - a0_1))
         ·rw [if_pos c16] at H
          have c16b0 : decide (((rd_T74 x3_1 x4_1).f1) < (wrap64 ((wrap64 (((rd_T74 x3_1 (ji12)).f1) - ((rd_T74 x3_1 (ji12)).f2))) - a0_1))) = true := decide_eq_true c16
          clear c16
          obtain ⟨y282, hy282⟩ : ∃ y_ : List (S74), y_ = (x3_1.set (x4_1 : Int).toNat (⟨(rd_T74 x3_1 x4_1).f0, wrap64 (((rd_T74 x3_1 x4_1).f1) + 1), (rd_T74 x3_1 x4_1).f2⟩ : S74)) := ⟨_, rfl⟩
          replace H : (spec_l02Step.l0 k1 y282 (wrap64 (x4_1 + 1)) a0_0 a0_1 a0_2 l0_3) = some (r1, r2, r3, r4) := by first | (rw [hy282]; with_reducible exact H) | (have H2_ := (Option.bind_some _ _).symm.trans H; rw [hy282]; with_reducible exact H2_) | (have H2_ := (Option.bind_some _ _).symm.trans H; with_reducible exact H2_) | with_reducible exact H | (rw [hy282]; exact H) | exact H
          have Ny282 := uD hy282
          clear hy282
          have H' := uD H
          clear H
          obtain ⟨Ao18, co18, eo18⟩ := Kd.R_slice HO_3.out
          subst eo18
          have hnb19 := NB270_271.out
          have hnc19 := NB271_270.out
          have hcz20_0 : wr.cell? ⟨gb270, 0, none⟩ = some (.int .i64 a0_0) := (uF BK270.out 0).trans rfl
          have hcz20_1 : wr.cell? ⟨gb270, 1, none⟩ = some (.int .i64 a0_1) := (uF BK270.out 1).trans rfl
          have hcz20_2 : wr.cell? ⟨gb270, 2, none⟩ = some (.bool a0_2) := (uF BK270.out 2).trans rfl
          have hcz20_3 : wr.cell? ⟨gb270, 3, none⟩ = some (.slice A0_3 l0_3.length c0_3) := (uF BK270.out 3).trans rfl
          have hfz20_0 := uI BK270.out 0
          have hfz20_1 := uI BK270.out 1
          have hfz20_2 := uI BK270.out 2
          have hfz20_3 := uI BK270.out 3
          have p278 : 0 ≤ ((ji12) : Int) := of_decide_eq_true (by first | (with_reducible assumption) | assumption)
          have q278 : (ji12) < (x3_1.length : Int) := of_decide_eq_true (by first | (with_reducible assumption) | assumption)
          obtain ⟨ad278, e278, hx278_0, hx278_1, hx278_2⟩ := at_T74 (Kd.R_reads' HO_3.out).2.2 (ji12) p278 q278
          cases e278
          replace p278 := eq_true p278
          replace q278 := eq_true q278
          have p279 : 0 ≤ ((ji12) : Int) := of_decide_eq_true (by first | (with_reducible assumption) | assumption)
          have q279 : (ji12) < (x3_1.length : Int) := of_decide_eq_true (by first | (with_reducible assumption) | assumption)
          obtain ⟨ad279, e279, hx279_0, hx279_1, hx279_2⟩ := at_T74 (Kd.R_reads' HO_3.out).2.2 (ji12) p279 q279
          obtain rfl : ad278 = ad279 := (by injection e279)
          replace p279 := eq_true p279
          replace q279 := eq_true q279
          have p280 : 0 ≤ (x4_1 : Int) := of_decide_eq_true (by first | (with_reducible assumption) | assumption)
          have q280 : x4_1 < (x3_1.length : Int) := of_decide_eq_true (by first | (with_reducible assumption) | assumption)
          obtain ⟨ad280, e280, hx280_0, hx280_1, hx280_2⟩ := at_T74 (Kd.R_reads' HO_3.out).2.2 x4_1 p280 q280
          obtain rfl : ad278 = ad280 := (by injection e280)
          replace p280 := eq_true p280
          replace q280 := eq_true q280
          have p281 : 0 ≤ (x4_1 : Int) := of_decide_eq_true (by first | (with_reducible assumption) | assumption)
          have q281 : x4_1 < (x3_1.length : Int) := of_decide_eq_true (by first | (with_reducible assumption) | assumption)
          obtain ⟨ad281, e281, hx281_0, hx281_1, hx281_2⟩ := at_T74 (Kd.R_reads' HO_3.out).2.2 x4_1 p281 q281
          obtain rfl : ad278 = ad281 := (by injection e281)
          replace p281 := eq_true p281
          replace q281 := eq_true q281
          have p17 : 0 ≤ (x4_1 : Int) := of_decide_eq_true (by first | (with_reducible assumption) | assumption)
          have q17 : (x4_1 : Int) < ((x3_1.length : Int) : Int) := of_decide_eq_true (by first | (with_reducible assumption) | assumption)
          obtain ⟨go17, co17, eo17, gb17, gl17, cl17, HG17⟩ := Kd.R_form HO_3.out (by omega)
          (first | cases eo17 | (injection eo17 with ea_ en_ ec_; (first | subst ea_ | (injection ea_ with ea_; subst ea_)); subst ec_; clear en_))
          have GB17 := uD gb17
          have GG17 := uD HG17
          clear gb17 gl17 HG17
          (first | simp only [add_plain] at hx278_0 | skip)
          (first | simp only [add_plain] at hx278_1 | skip)
          (first | simp only [add_plain] at hx278_2 | skip)
          (first | simp only [add_plain] at hx279_0 | skip)
          (first | simp only [add_plain] at hx279_1 | skip)
          (first | simp only [add_plain] at hx279_2 | skip)
          (first | simp only [add_plain] at hx280_0 | skip)
          (first | simp only [add_plain] at hx280_1 | skip)
          (first | simp only [add_plain] at hx280_2 | skip)
          (first | simp only [add_plain] at hx281_0 | skip)
          (first | simp only [add_plain] at hx281_1 | skip)
          (first | simp only [add_plain] at hx281_2 | skip)
          obtain ⟨ce17, hcl17, hM17, hcc17, hfr17⟩ := Kd.R_elem HO_3.out z74 (x4_1 : Int) p17 q17
          obtain rfl := k74_openM hM17
          have hx17_0 : wr.cell? ⟨go17, (x4_1 : Int).toNat * 3, none⟩ = some (.int .i64 ((rd_T74 x3_1 x4_1).f0)) := hcc17 0 _ rfl
          have hx17_1 : wr.cell? ⟨go17, (x4_1 : Int).toNat * 3 + 1, none⟩ = some (.int .i64 ((rd_T74 x3_1 x4_1).f1)) := hcc17 1 _ rfl
          have hx17_2 : wr.cell? ⟨go17, (x4_1 : Int).toNat * 3 + 2, none⟩ = some (.int .i64 ((rd_T74 x3_1 x4_1).f2)) := hcc17 2 _ rfl
          have hf17_0 : wr.frozen? ⟨go17, (x4_1 : Int).toNat * 3, none⟩ = false := hfr17 0
          have hf17_1 : wr.frozen? ⟨go17, (x4_1 : Int).toNat * 3 + 1, none⟩ = false := hfr17 1
          have hf17_2 : wr.frozen? ⟨go17, (x4_1 : Int).toNat * 3 + 2, none⟩ = false := hfr17 2
          clear hcl17 hcc17 hfr17 hM17
          replace p17 := eq_true p17
          replace q17 := eq_true q17
          have HX21 := uD (show Kd.R k74 74 wr w.heap.size (fun _ => True) (.slice (some ⟨go17, 0, none⟩) x3_1.length co18) x3_1 from (by (with_reducible repeat (first | apply uU | apply uS | apply uT)); exact HO_3.out))
          obtain ⟨ce21, hcl21, hM21, hcc21, hfr21⟩ := Kd.R_elem HX21.out z74 (x4_1 : Int) (of_decide_eq_true (by first | (with_reducible assumption) | assumption)) (by have h_ : (x4_1 : Int) < ((x3_1.length : Int) : Int) := of_decide_eq_true (by first | (with_reducible assumption) | assumption); first | exact h_ | (have e_ := (Kd.R_reads' HO_3.out).1; omega) | simpa using h_)
          obtain rfl := k74_openM hM21
          have HP21 := Kd.R_seg HX21.out (x4_1 : Int) (of_decide_eq_true (by first | (with_reducible assumption) | assumption)) (by have h_ : (x4_1 : Int) < ((x3_1.length : Int) : Int) := of_decide_eq_true (by first | (with_reducible assumption) | assumption); first | exact h_ | (have e_ := (Kd.R_reads' HO_3.out).1; omega) | simpa using h_) (seg := [.int .i64 (wrap64 (((rd_T74 x3_1 x4_1).f1) + 1))]) (j := 1) hcl21 hcc21 (show 2 ≤ 3 from by decide) (x' := (⟨(rd_T74 x3_1 x4_1).f0, wrap64 (((rd_T74 x3_1 x4_1).f1) + 1), (rd_T74 x3_1 x4_1).f2⟩ : S74)) (k74_mkM _ _ _ (⟨(rd_T74 x3_1 x4_1).f0, wrap64 (((rd_T74 x3_1 x4_1).f1) + 1), (rd_T74 x3_1 x4_1).f2⟩ : S74) ) (fun _ hk => hk)
          have hx21_1 := hcc21 1 _ rfl
          (try simp only [show (k74).sz = 3 from rfl, Nat.mul_one, Nat.add_zero] at hx21_1)
          have hf21_1 := hfr21 1
          (try simp only [show (k74).sz = 3 from rfl, Nat.mul_one, Nat.add_zero] at hf21_1)
          clear hcl21 hcc21 hfr21 hM21
          go_wp2_with (first | ((with_reducible refine gate_store (t := 3) (p := 52) rfl ?_); (try (rw [drewN_self wr]; generalize hq_ : World.drewN wr _ = wr; have n0_ := uD (Kd.R_at hq_ HO_3.out); have n1_ := uD (blk_at hq_ BK270.out); have n2_ := uD (blk_at hq_ BK271.out); have n3_ := uD (below_at hq_ HB.out); clear hq_ HO_3 BK270 BK271 HB; have HO_3 := n0_; have BK270 := n1_; have BK271 := n2_; have HB := n3_; clear n0_ n1_ n2_ n3_; (try (have HX21 := uD (show Kd.R k74 74 wr w.heap.size (fun _ => True) (.slice (some ⟨go17, 0, none⟩) x3_1.length co18) x3_1 from (by (with_reducible repeat (first | apply uU | apply uS | apply uT)); exact HO_3.out)))); (try (obtain ⟨ce21, hcl21, hM21, hcc21, hfr21⟩ := Kd.R_elem HX21.out z74 (x4_1 : Int) (of_decide_eq_true (by first | (with_reducible assumption) | assumption)) (by have h_ : (x4_1 : Int) < ((x3_1.length : Int) : Int) := of_decide_eq_true (by first | (with_reducible assumption) | assumption); first | exact h_ | (have e_ := (Kd.R_reads' HO_3.out).1; omega) | simpa using h_))); (try (obtain rfl := k74_openM hM21)); (try (have HP21 := Kd.R_seg HX21.out (x4_1 : Int) (of_decide_eq_true (by first | (with_reducible assumption) | assumption)) (by have h_ : (x4_1 : Int) < ((x3_1.length : Int) : Int) := of_decide_eq_true (by first | (with_reducible assumption) | assumption); first | exact h_ | (have e_ := (Kd.R_reads' HO_3.out).1; omega) | simpa using h_) (seg := [.int .i64 (wrap64 (((rd_T74 x3_1 x4_1).f1) + 1))]) (j := 1) hcl21 hcc21 (show 2 ≤ 3 from by decide) (x' := (⟨(rd_T74 x3_1 x4_1).f0, wrap64 (((rd_T74 x3_1 x4_1).f1) + 1), (rd_T74 x3_1 x4_1).f2⟩ : S74)) (k74_mkM _ _ _ (⟨(rd_T74 x3_1 x4_1).f0, wrap64 (((rd_T74 x3_1 x4_1).f1) + 1), (rd_T74 x3_1 x4_1).f2⟩ : S74) ) (fun _ hk => hk))); (try (have hx21_1 := hcc21 1 _ rfl)); (try (try simp only [show (k74).sz = 3 from rfl, Nat.mul_one, Nat.add_zero] at hx21_1)); (try (have hf21_1 := hfr21 1)); (try (try simp only [show (k74).sz = 3 from rfl, Nat.mul_one, Nat.add_zero] at hf21_1)); (try (clear hcl21 hcc21 hfr21 hM21)))); refine store_event (t := 3) (p := 52) (v := ?vo_w22) (w1 := (wr.setCell ⟨go17, (x4_1 : Int).toNat * 3 + 1, none⟩ (.int .i64 (wrap64 (((rd_T74 x3_1 x4_1).f1) + 1))))) ?hg ?ho ?hn ?hr ?_; (case ho => rfl); (case hg => rfl); (case hn => rfl); (case hr => first | (go_simp; done) | (go_simp; rfl)); intro w22 hw; have hg : wr.grownBy w22 (some go17) := (by rw [hw]; exact HP21.2); have hp_ : Kd.R k74 74 w22 w.heap.size (fun _ => True) (.slice (some ⟨go17, 0, none⟩) x3_1.length co18) y282 := (by rw [hw, Ny282.out]; exact HP21.1); clear HP21; have n0_ := uD (hp_); have n1_ := uD (blk_grown (g := gb270) (o := .cells #[.int .i64 a0_0, .int .i64 a0_1, .bool a0_2, .slice A0_3 l0_3.length c0_3] 63 (0, 0)) (by (with_reducible repeat (first | refine uH ?_ _ | refine uJ ?_ | refine uG ?_ _)); exact BK270.out) hg (Kd.R_ne HO_3.out BK270.out (by decide))); have n2_ := uD (blk_grown (g := gb271) (o := .cells #[.int .i64 0, .int .i64 0, .bool false, .slice none 0 0] 63 (0, 0)) (by (with_reducible repeat (first | refine uH ?_ _ | refine uJ ?_ | refine uG ?_ _)); exact BK271.out) hg (Kd.R_ne HO_3.out BK271.out (by decide))); have n3_ := uD ((by rw [hw]; exact uM (HB.out) GB17.out : Below w.heap.size w w22)); clear HO_3; clear BK270; clear BK271; clear HB; have HO_3 := n0_; have BK270 := n1_; have BK271 := n2_; have HB := n3_; clear n0_ n1_ n2_ n3_; clear hg hw hp_))
          repeat (go_quiet (first | ((with_reducible refine gate_store (t := 3) (p := 52) rfl ?_); (try (rw [drewN_self wr]; generalize hq_ : World.drewN wr _ = wr; have n0_ := uD (Kd.R_at hq_ HO_3.out); have n1_ := uD (blk_at hq_ BK270.out); have n2_ := uD (blk_at hq_ BK271.out); have n3_ := uD (below_at hq_ HB.out); clear hq_ HO_3 BK270 BK271 HB; have HO_3 := n0_; have BK270 := n1_; have BK271 := n2_; have HB := n3_; clear n0_ n1_ n2_ n3_; (try (have HX21 := uD (show Kd.R k74 74 wr w.heap.size (fun _ => True) (.slice (some ⟨go17, 0, none⟩) x3_1.length co18) x3_1 from (by (with_reducible repeat (first | apply uU | apply uS | apply uT)); exact HO_3.out)))); (try (obtain ⟨ce21, hcl21, hM21, hcc21, hfr21⟩ := Kd.R_elem HX21.out z74 (x4_1 : Int) (of_decide_eq_true (by first | (with_reducible assumption) | assumption)) (by have h_ : (x4_1 : Int) < ((x3_1.length : Int) : Int) := of_decide_eq_true (by first | (with_reducible assumption) | assumption); first | exact h_ | (have e_ := (Kd.R_reads' HO_3.out).1; omega) | simpa using h_))); (try (obtain rfl := k74_openM hM21)); (try (have HP21 := Kd.R_seg HX21.out (x4_1 : Int) (of_decide_eq_true (by first | (with_reducible assumption) | assumption)) (by have h_ : (x4_1 : Int) < ((x3_1.length : Int) : Int) := of_decide_eq_true (by first | (with_reducible assumption) | assumption); first | exact h_ | (have e_ := (Kd.R_reads' HO_3.out).1; omega) | simpa using h_) (seg := [.int .i64 (wrap64 (((rd_T74 x3_1 x4_1).f1) + 1))]) (j := 1) hcl21 hcc21 (show 2 ≤ 3 from by decide) (x' := (⟨(rd_T74 x3_1 x4_1).f0, wrap64 (((rd_T74 x3_1 x4_1).f1) + 1), (rd_T74 x3_1 x4_1).f2⟩ : S74)) (k74_mkM _ _ _ (⟨(rd_T74 x3_1 x4_1).f0, wrap64 (((rd_T74 x3_1 x4_1).f1) + 1), (rd_T74 x3_1 x4_1).f2⟩ : S74) ) (fun _ hk => hk))); (try (have hx21_1 := hcc21 1 _ rfl)); (try (try simp only [show (k74).sz = 3 from rfl, Nat.mul_one, Nat.add_zero] at hx21_1)); (try (have hf21_1 := hfr21 1)); (try (try simp only [show (k74).sz = 3 from rfl, Nat.mul_one, Nat.add_zero] at hf21_1)); (try (clear hcl21 hcc21 hfr21 hM21)))); refine store_event (t := 3) (p := 52) (v := ?vo_w22) (w1 := (wr.setCell ⟨go17, (x4_1 : Int).toNat * 3 + 1, none⟩ (.int .i64 (wrap64 (((rd_T74 x3_1 x4_1).f1) + 1))))) ?hg ?ho ?hn ?hr ?_; (case ho => rfl); (case hg => rfl); (case hn => rfl); (case hr => first | (go_simp; done) | (go_simp; rfl)); intro w22 hw; have hg : wr.grownBy w22 (some go17) := (by rw [hw]; exact HP21.2); have hp_ : Kd.R k74 74 w22 w.heap.size (fun _ => True) (.slice (some ⟨go17, 0, none⟩) x3_1.length co18) y282 := (by rw [hw, Ny282.out]; exact HP21.1); clear HP21; have n0_ := uD (hp_); have n1_ := uD (blk_grown (g := gb270) (o := .cells #[.int .i64 a0_0, .int .i64 a0_1, .bool a0_2, .slice A0_3 l0_3.length c0_3] 63 (0, 0)) (by (with_reducible repeat (first | refine uH ?_ _ | refine uJ ?_ | refine uG ?_ _)); exact BK270.out) hg (Kd.R_ne HO_3.out BK270.out (by decide))); have n2_ := uD (blk_grown (g := gb271) (o := .cells #[.int .i64 0, .int .i64 0, .bool false, .slice none 0 0] 63 (0, 0)) (by (with_reducible repeat (first | refine uH ?_ _ | refine uJ ?_ | refine uG ?_ _)); exact BK271.out) hg (Kd.R_ne HO_3.out BK271.out (by decide))); have n3_ := uD ((by rw [hw]; exact uM (HB.out) GB17.out : Below w.heap.size w w22)); clear HO_3; clear BK270; clear BK271; clear HB; have HO_3 := n0_; have BK270 := n1_; have BK271 := n2_; have HB := n3_; clear n0_ n1_ n2_ n3_; clear hg hw hp_)); try go_wp2_with (first | ((with_reducible refine gate_store (t := 3) (p := 52) rfl ?_); (try (rw [drewN_self wr]; generalize hq_ : World.drewN wr _ = wr; have n0_ := uD (Kd.R_at hq_ HO_3.out); have n1_ := uD (blk_at hq_ BK270.out); have n2_ := uD (blk_at hq_ BK271.out); have n3_ := uD (below_at hq_ HB.out); clear hq_ HO_3 BK270 BK271 HB; have HO_3 := n0_; have BK270 := n1_; have BK271 := n2_; have HB := n3_; clear n0_ n1_ n2_ n3_; (try (have HX21 := uD (show Kd.R k74 74 wr w.heap.size (fun _ => True) (.slice (some ⟨go17, 0, none⟩) x3_1.length co18) x3_1 from (by (with_reducible repeat (first | apply uU | apply uS | apply uT)); exact HO_3.out)))); (try (obtain ⟨ce21, hcl21, hM21, hcc21, hfr21⟩ := Kd.R_elem HX21.out z74 (x4_1 : Int) (of_decide_eq_true (by first | (with_reducible assumption) | assumption)) (by have h_ : (x4_1 : Int) < ((x3_1.length : Int) : Int) := of_decide_eq_true (by first | (with_reducible assumption) | assumption); first | exact h_ | (have e_ := (Kd.R_reads' HO_3.out).1; omega) | simpa using h_))); (try (obtain rfl := k74_openM hM21)); (try (have HP21 := Kd.R_seg HX21.out (x4_1 : Int) (of_decide_eq_true (by first | (with_reducible assumption) | assumption)) (by have h_ : (x4_1 : Int) < ((x3_1.length : Int) : Int) := of_decide_eq_true (by first | (with_reducible assumption) | assumption); first | exact h_ | (have e_ := (Kd.R_reads' HO_3.out).1; omega) | simpa using h_) (seg := [.int .i64 (wrap64 (((rd_T74 x3_1 x4_1).f1) + 1))]) (j := 1) hcl21 hcc21 (show 2 ≤ 3 from by decide) (x' := (⟨(rd_T74 x3_1 x4_1).f0, wrap64 (((rd_T74 x3_1 x4_1).f1) + 1), (rd_T74 x3_1 x4_1).f2⟩ : S74)) (k74_mkM _ _ _ (⟨(rd_T74 x3_1 x4_1).f0, wrap64 (((rd_T74 x3_1 x4_1).f1) + 1), (rd_T74 x3_1 x4_1).f2⟩ : S74) ) (fun _ hk => hk))); (try (have hx21_1 := hcc21 1 _ rfl)); (try (try simp only [show (k74).sz = 3 from rfl, Nat.mul_one, Nat.add_zero] at hx21_1)); (try (have hf21_1 := hfr21 1)); (try (try simp only [show (k74).sz = 3 from rfl, Nat.mul_one, Nat.add_zero] at hf21_1)); (try (clear hcl21 hcc21 hfr21 hM21)))); refine store_event (t := 3) (p := 52) (v := ?vo_w22) (w1 := (wr.setCell ⟨go17, (x4_1 : Int).toNat * 3 + 1, none⟩ (.int .i64 (wrap64 (((rd_T74 x3_1 x4_1).f1) + 1))))) ?hg ?ho ?hn ?hr ?_; (case ho => rfl); (case hg => rfl); (case hn => rfl); (case hr => first | (go_simp; done) | (go_simp; rfl)); intro w22 hw; have hg : wr.grownBy w22 (some go17) := (by rw [hw]; exact HP21.2); have hp_ : Kd.R k74 74 w22 w.heap.size (fun _ => True) (.slice (some ⟨go17, 0, none⟩) x3_1.length co18) y282 := (by rw [hw, Ny282.out]; exact HP21.1); clear HP21; have n0_ := uD (hp_); have n1_ := uD (blk_grown (g := gb270) (o := .cells #[.int .i64 a0_0, .int .i64 a0_1, .bool a0_2, .slice A0_3 l0_3.length c0_3] 63 (0, 0)) (by (with_reducible repeat (first | refine uH ?_ _ | refine uJ ?_ | refine uG ?_ _)); exact BK270.out) hg (Kd.R_ne HO_3.out BK270.out (by decide))); have n2_ := uD (blk_grown (g := gb271) (o := .cells #[.int .i64 0, .int .i64 0, .bool false, .slice none 0 0] 63 (0, 0)) (by (with_reducible repeat (first | refine uH ?_ _ | refine uJ ?_ | refine uG ?_ _)); exact BK271.out) hg (Kd.R_ne HO_3.out BK271.out (by decide))); have n3_ := uD ((by rw [hw]; exact uM (HB.out) GB17.out : Below w.heap.size w w22)); clear HO_3; clear BK270; clear BK271; clear HB; have HO_3 := n0_; have BK270 := n1_; have BK271 := n2_; have HB := n3_; clear n0_ n1_ n2_ n3_; clear hg hw hp_)))
          go_roundg k1
          case measure => have := HK1.out; omega
          case rel => exact ⟨(y282), (wrap64 (x4_1 + 1)), (by first | rfl | (simp; done) | (simp [*]; done)), H', ⟨by have := HK1.out; omega⟩, ⟨by (with_reducible repeat (first | apply uU | apply uS | apply uT)); exact HO_3.out⟩, ⟨by (with_reducible repeat (first | refine uH ?_ _ | refine uJ ?_ | refine uG ?_ _)); exact BK270.out⟩, ⟨by (with_reducible repeat (first | refine uH ?_ _ | refine uJ ?_ | refine uG ?_ _)); exact BK271.out⟩, ⟨by repeat (first | (with_reducible first | exact HB.out | apply uL | apply uE | apply uK | refine uM ?_ GE270.out | refine uM ?_ GE271.out) | exact HB.out)⟩⟩
         ·rw [if_neg c16] at H
          have c16b0 : decide (((rd_T74 x3_1 x4_1).f1) < (wrap64 ((wrap64 (((rd_T74 x3_1 (ji12)).f1) - ((rd_T74 x3_1 (ji12)).f2))) - a0_1))) = false := decide_eq_false c16
          clear c16
          have H' := uD H
          clear H
          obtain ⟨Ao23, co23, eo23⟩ := Kd.R_slice HO_3.out
          subst eo23
          have hnb24 := NB270_271.out
          have hnc24 := NB271_270.out
          have hcz25_0 : wr.cell? ⟨gb270, 0, none⟩ = some (.int .i64 a0_0) := (uF BK270.out 0).trans rfl
          have hcz25_1 : wr.cell? ⟨gb270, 1, none⟩ = some (.int .i64 a0_1) := (uF BK270.out 1).trans rfl
          have hcz25_2 : wr.cell? ⟨gb270, 2, none⟩ = some (.bool a0_2) := (uF BK270.out 2).trans rfl
          have hcz25_3 : wr.cell? ⟨gb270, 3, none⟩ = some (.slice A0_3 l0_3.length c0_3) := (uF BK270.out 3).trans rfl
          have hfz25_0 := uI BK270.out 0
          have hfz25_1 := uI BK270.out 1
          have hfz25_2 := uI BK270.out 2
          have hfz25_3 := uI BK270.out 3
          have p278 : 0 ≤ ((ji12) : Int) := of_decide_eq_true (by first | (with_reducible assumption) | assumption)
          have q278 : (ji12) < (x3_1.length : Int) := of_decide_eq_true (by first | (with_reducible assumption) | assumption)
          obtain ⟨ad278, e278, hx278_0, hx278_1, hx278_2⟩ := at_T74 (Kd.R_reads' HO_3.out).2.2 (ji12) p278 q278
          cases e278
          replace p278 := eq_true p278
          replace q278 := eq_true q278
          have p279 : 0 ≤ ((ji12) : Int) := of_decide_eq_true (by first | (with_reducible assumption) | assumption)
          have q279 : (ji12) < (x3_1.length : Int) := of_decide_eq_true (by first | (with_reducible assumption) | assumption)
          obtain ⟨ad279, e279, hx279_0, hx279_1, hx279_2⟩ := at_T74 (Kd.R_reads' HO_3.out).2.2 (ji12) p279 q279
          obtain rfl : ad278 = ad279 := (by injection e279)
          replace p279 := eq_true p279
          replace q279 := eq_true q279
          have p280 : 0 ≤ (x4_1 : Int) := of_decide_eq_true (by first | (with_reducible assumption) | assumption)
          have q280 : x4_1 < (x3_1.length : Int) := of_decide_eq_true (by first | (with_reducible assumption) | assumption)
          obtain ⟨ad280, e280, hx280_0, hx280_1, hx280_2⟩ := at_T74 (Kd.R_reads' HO_3.out).2.2 x4_1 p280 q280
          obtain rfl : ad278 = ad280 := (by injection e280)
          replace p280 := eq_true p280
          replace q280 := eq_true q280
          go_wp2
          repeat (go_quiet (fail); try go_wp2)
          go_roundg k1
          case measure => have := HK1.out; omega
          case rel => exact ⟨(x3_1), (wrap64 (x4_1 + 1)), (by first | rfl | (simp; done) | (simp [*]; done)), H', ⟨by have := HK1.out; omega⟩, ⟨by (with_reducible repeat (first | apply uU | apply uS | apply uT)); exact HO_3.out⟩, ⟨by (with_reducible repeat (first | refine uH ?_ _ | refine uJ ?_ | refine uG ?_ _)); exact BK270.out⟩, ⟨by (with_reducible repeat (first | refine uH ?_ _ | refine uJ ?_ | refine uG ?_ _)); exact BK271.out⟩, ⟨by repeat (first | (with_reducible first | exact HB.out | apply uL | apply uE | apply uK | refine uM ?_ GE270.out | refine uM ?_ GE271.out) | exact HB.out)⟩⟩
        ·rw [if_neg c15] at H
         exact absurd H (by simp)
       ·rw [if_neg c14] at H
        exact absurd H (by simp)
      ·rw [if_neg c13] at H
       exact absurd H (by simp)
     ·rw [if_neg c11] at H
      have c11b0 : decide (0 < x4_1) = false := decide_eq_false c11
      clear c11
      by_cases c26 : 0 ≤ x4_1
      ·rw [if_pos c26] at H
       have c26b0 : decide (0 ≤ x4_1) = true := decide_eq_true c26
       clear c26
       by_cases c27 : ((rd_T74 x3_1 x4_1).f1) < a0_0
       ·rw [if_pos c27] at H
        have c27b0 : decide (((rd_T74 x3_1 x4_1).f1) < a0_0) = true := decide_eq_true c27
        clear c27
        obtain ⟨y285, hy285⟩ : ∃ y_ : List (S74), y_ = (x3_1.set (x4_1 : Int).toNat (⟨(rd_T74 x3_1 x4_1).f0, wrap64 (((rd_T74 x3_1 x4_1).f1) + 1), (rd_T74 x3_1 x4_1).f2⟩ : S74)) := ⟨_, rfl⟩
        replace H : (spec_l02Step.l0 k1 y285 (wrap64 (x4_1 + 1)) a0_0 a0_1 a0_2 l0_3) = some (r1, r2, r3, r4) := by first | (rw [hy285]; with_reducible exact H) | (have H2_ := (Option.bind_some _ _).symm.trans H; rw [hy285]; with_reducible exact H2_) | (have H2_ := (Option.bind_some _ _).symm.trans H; with_reducible exact H2_) | with_reducible exact H | (rw [hy285]; exact H) | exact H
        have Ny285 := uD hy285
        clear hy285
        have H' := uD H
        clear H
        obtain ⟨Ao29, co29, eo29⟩ := Kd.R_slice HO_3.out
        subst eo29
        have hnb30 := NB270_271.out
        have hnc30 := NB271_270.out
        have hcz31_0 : wr.cell? ⟨gb270, 0, none⟩ = some (.int .i64 a0_0) := (uF BK270.out 0).trans rfl
        have hcz31_1 : wr.cell? ⟨gb270, 1, none⟩ = some (.int .i64 a0_1) := (uF BK270.out 1).trans rfl
        have hcz31_2 : wr.cell? ⟨gb270, 2, none⟩ = some (.bool a0_2) := (uF BK270.out 2).trans rfl
        have hcz31_3 : wr.cell? ⟨gb270, 3, none⟩ = some (.slice A0_3 l0_3.length c0_3) := (uF BK270.out 3).trans rfl
        have hfz31_0 := uI BK270.out 0
        have hfz31_1 := uI BK270.out 1
        have hfz31_2 := uI BK270.out 2
        have hfz31_3 := uI BK270.out 3
        have p283 : 0 ≤ (x4_1 : Int) := of_decide_eq_true (by first | (with_reducible assumption) | assumption)
        have q283 : x4_1 < (x3_1.length : Int) := of_decide_eq_true (by first | (with_reducible assumption) | assumption)
        obtain ⟨ad283, e283, hx283_0, hx283_1, hx283_2⟩ := at_T74 (Kd.R_reads' HO_3.out).2.2 x4_1 p283 q283
        cases e283
        replace p283 := eq_true p283
        replace q283 := eq_true q283
        have p284 : 0 ≤ (x4_1 : Int) := of_decide_eq_true (by first | (with_reducible assumption) | assumption)
        have q284 : x4_1 < (x3_1.length : Int) := of_decide_eq_true (by first | (with_reducible assumption) | assumption)
        obtain ⟨ad284, e284, hx284_0, hx284_1, hx284_2⟩ := at_T74 (Kd.R_reads' HO_3.out).2.2 x4_1 p284 q284
        obtain rfl : ad283 = ad284 := (by injection e284)
        replace p284 := eq_true p284
        replace q284 := eq_true q284
        have p28 : 0 ≤ (x4_1 : Int) := of_decide_eq_true (by first | (with_reducible assumption) | assumption)
        have q28 : (x4_1 : Int) < ((x3_1.length : Int) : Int) := of_decide_eq_true (by first | (with_reducible assumption) | assumption)
        obtain ⟨go28, co28, eo28, gb28, gl28, cl28, HG28⟩ := Kd.R_form HO_3.out (by omega)
        (first | cases eo28 | (injection eo28 with ea_ en_ ec_; (first | subst ea_ | (injection ea_ with ea_; subst ea_)); subst ec_; clear en_))
        have GB28 := uD gb28
        have GG28 := uD HG28
        clear gb28 gl28 HG28
        (first | simp only [add_plain] at hx283_0 | skip)
        (first | simp only [add_plain] at hx283_1 | skip)
        (first | simp only [add_plain] at hx283_2 | skip)
        (first | simp only [add_plain] at hx284_0 | skip)
        (first | simp only [add_plain] at hx284_1 | skip)
        (first | simp only [add_plain] at hx284_2 | skip)
        obtain ⟨ce28, hcl28, hM28, hcc28, hfr28⟩ := Kd.R_elem HO_3.out z74 (x4_1 : Int) p28 q28
        obtain rfl := k74_openM hM28
        have hx28_0 : wr.cell? ⟨go28, (x4_1 : Int).toNat * 3, none⟩ = some (.int .i64 ((rd_T74 x3_1 x4_1).f0)) := hcc28 0 _ rfl
        have hx28_1 : wr.cell? ⟨go28, (x4_1 : Int).toNat * 3 + 1, none⟩ = some (.int .i64 ((rd_T74 x3_1 x4_1).f1)) := hcc28 1 _ rfl
        have hx28_2 : wr.cell? ⟨go28, (x4_1 : Int).toNat * 3 + 2, none⟩ = some (.int .i64 ((rd_T74 x3_1 x4_1).f2)) := hcc28 2 _ rfl
        have hf28_0 : wr.frozen? ⟨go28, (x4_1 : Int).toNat * 3, none⟩ = false := hfr28 0
        have hf28_1 : wr.frozen? ⟨go28, (x4_1 : Int).toNat * 3 + 1, none⟩ = false := hfr28 1
        have hf28_2 : wr.frozen? ⟨go28, (x4_1 : Int).toNat * 3 + 2, none⟩ = false := hfr28 2
        clear hcl28 hcc28 hfr28 hM28
        replace p28 := eq_true p28
        replace q28 := eq_true q28
        have HX32 := uD (show Kd.R k74 74 wr w.heap.size (fun _ => True) (.slice (some ⟨go28, 0, none⟩) x3_1.length co29) x3_1 from (by (with_reducible repeat (first | apply uU | apply uS | apply uT)); exact HO_3.out))
        obtain ⟨ce32, hcl32, hM32, hcc32, hfr32⟩ := Kd.R_elem HX32.out z74 (x4_1 : Int) (of_decide_eq_true (by first | (with_reducible assumption) | assumption)) (by have h_ : (x4_1 : Int) < ((x3_1.length : Int) : Int) := of_decide_eq_true (by first | (with_reducible assumption) | assumption); first | exact h_ | (have e_ := (Kd.R_reads' HO_3.out).1; omega) | simpa using h_)
        obtain rfl := k74_openM hM32
        have HP32 := Kd.R_seg HX32.out (x4_1 : Int) (of_decide_eq_true (by first | (with_reducible assumption) | assumption)) (by have h_ : (x4_1 : Int) < ((x3_1.length : Int) : Int) := of_decide_eq_true (by first | (with_reducible assumption) | assumption); first | exact h_ | (have e_ := (Kd.R_reads' HO_3.out).1; omega) | simpa using h_) (seg := [.int .i64 (wrap64 (((rd_T74 x3_1 x4_1).f1) + 1))]) (j := 1) hcl32 hcc32 (show 2 ≤ 3 from by decide) (x' := (⟨(rd_T74 x3_1 x4_1).f0, wrap64 (((rd_T74 x3_1 x4_1).f1) + 1), (rd_T74 x3_1 x4_1).f2⟩ : S74)) (k74_mkM _ _ _ (⟨(rd_T74 x3_1 x4_1).f0, wrap64 (((rd_T74 x3_1 x4_1).f1) + 1), (rd_T74 x3_1 x4_1).f2⟩ : S74) ) (fun _ hk => hk)
        have hx32_1 := hcc32 1 _ rfl
        (try simp only [show (k74).sz = 3 from rfl, Nat.mul_one, Nat.add_zero] at hx32_1)
        have hf32_1 := hfr32 1
        (try simp only [show (k74).sz = 3 from rfl, Nat.mul_one, Nat.add_zero] at hf32_1)
        clear hcl32 hcc32 hfr32 hM32
        go_wp2_with (first | ((with_reducible refine gate_store (t := 3) (p := 52) rfl ?_); (try (rw [drewN_self wr]; generalize hq_ : World.drewN wr _ = wr; have n0_ := uD (Kd.R_at hq_ HO_3.out); have n1_ := uD (blk_at hq_ BK270.out); have n2_ := uD (blk_at hq_ BK271.out); have n3_ := uD (below_at hq_ HB.out); clear hq_ HO_3 BK270 BK271 HB; have HO_3 := n0_; have BK270 := n1_; have BK271 := n2_; have HB := n3_; clear n0_ n1_ n2_ n3_; (try (have HX32 := uD (show Kd.R k74 74 wr w.heap.size (fun _ => True) (.slice (some ⟨go28, 0, none⟩) x3_1.length co29) x3_1 from (by (with_reducible repeat (first | apply uU | apply uS | apply uT)); exact HO_3.out)))); (try (obtain ⟨ce32, hcl32, hM32, hcc32, hfr32⟩ := Kd.R_elem HX32.out z74 (x4_1 : Int) (of_decide_eq_true (by first | (with_reducible assumption) | assumption)) (by have h_ : (x4_1 : Int) < ((x3_1.length : Int) : Int) := of_decide_eq_true (by first | (with_reducible assumption) | assumption); first | exact h_ | (have e_ := (Kd.R_reads' HO_3.out).1; omega) | simpa using h_))); (try (obtain rfl := k74_openM hM32)); (try (have HP32 := Kd.R_seg HX32.out (x4_1 : Int) (of_decide_eq_true (by first | (with_reducible assumption) | assumption)) (by have h_ : (x4_1 : Int) < ((x3_1.length : Int) : Int) := of_decide_eq_true (by first | (with_reducible assumption) | assumption); first | exact h_ | (have e_ := (Kd.R_reads' HO_3.out).1; omega) | simpa using h_) (seg := [.int .i64 (wrap64 (((rd_T74 x3_1 x4_1).f1) + 1))]) (j := 1) hcl32 hcc32 (show 2 ≤ 3 from by decide) (x' := (⟨(rd_T74 x3_1 x4_1).f0, wrap64 (((rd_T74 x3_1 x4_1).f1) + 1), (rd_T74 x3_1 x4_1).f2⟩ : S74)) (k74_mkM _ _ _ (⟨(rd_T74 x3_1 x4_1).f0, wrap64 (((rd_T74 x3_1 x4_1).f1) + 1), (rd_T74 x3_1 x4_1).f2⟩ : S74) ) (fun _ hk => hk))); (try (have hx32_1 := hcc32 1 _ rfl)); (try (try simp only [show (k74).sz = 3 from rfl, Nat.mul_one, Nat.add_zero] at hx32_1)); (try (have hf32_1 := hfr32 1)); (try (try simp only [show (k74).sz = 3 from rfl, Nat.mul_one, Nat.add_zero] at hf32_1)); (try (clear hcl32 hcc32 hfr32 hM32)))); refine store_event (t := 3) (p := 52) (v := ?vo_w33) (w1 := (wr.setCell ⟨go28, (x4_1 : Int).toNat * 3 + 1, none⟩ (.int .i64 (wrap64 (((rd_T74 x3_1 x4_1).f1) + 1))))) ?hg ?ho ?hn ?hr ?_; (case ho => rfl); (case hg => rfl); (case hn => rfl); (case hr => first | (go_simp; done) | (go_simp; rfl)); intro w33 hw; have hg : wr.grownBy w33 (some go28) := (by rw [hw]; exact HP32.2); have hp_ : Kd.R k74 74 w33 w.heap.size (fun _ => True) (.slice (some ⟨go28, 0, none⟩) x3_1.length co29) y285 := (by rw [hw, Ny285.out]; exact HP32.1); clear HP32; have n0_ := uD (hp_); have n1_ := uD (blk_grown (g := gb270) (o := .cells #[.int .i64 a0_0, .int .i64 a0_1, .bool a0_2, .slice A0_3 l0_3.length c0_3] 63 (0, 0)) (by (with_reducible repeat (first | refine uH ?_ _ | refine uJ ?_ | refine uG ?_ _)); exact BK270.out) hg (Kd.R_ne HO_3.out BK270.out (by decide))); have n2_ := uD (blk_grown (g := gb271) (o := .cells #[.int .i64 0, .int .i64 0, .bool false, .slice none 0 0] 63 (0, 0)) (by (with_reducible repeat (first | refine uH ?_ _ | refine uJ ?_ | refine uG ?_ _)); exact BK271.out) hg (Kd.R_ne HO_3.out BK271.out (by decide))); have n3_ := uD ((by rw [hw]; exact uM (HB.out) GB28.out : Below w.heap.size w w33)); clear HO_3; clear BK270; clear BK271; clear HB; have HO_3 := n0_; have BK270 := n1_; have BK271 := n2_; have HB := n3_; clear n0_ n1_ n2_ n3_; clear hg hw hp_))
        repeat (go_quiet (first | ((with_reducible refine gate_store (t := 3) (p := 52) rfl ?_); (try (rw [drewN_self wr]; generalize hq_ : World.drewN wr _ = wr; have n0_ := uD (Kd.R_at hq_ HO_3.out); have n1_ := uD (blk_at hq_ BK270.out); have n2_ := uD (blk_at hq_ BK271.out); have n3_ := uD (below_at hq_ HB.out); clear hq_ HO_3 BK270 BK271 HB; have HO_3 := n0_; have BK270 := n1_; have BK271 := n2_; have HB := n3_; clear n0_ n1_ n2_ n3_; (try (have HX32 := uD (show Kd.R k74 74 wr w.heap.size (fun _ => True) (.slice (some ⟨go28, 0, none⟩) x3_1.length co29) x3_1 from (by (with_reducible repeat (first | apply uU | apply uS | apply uT)); exact HO_3.out)))); (try (obtain ⟨ce32, hcl32, hM32, hcc32, hfr32⟩ := Kd.R_elem HX32.out z74 (x4_1 : Int) (of_decide_eq_true (by first | (with_reducible assumption) | assumption)) (by have h_ : (x4_1 : Int) < ((x3_1.length : Int) : Int) := of_decide_eq_true (by first | (with_reducible assumption) | assumption); first | exact h_ | (have e_ := (Kd.R_reads' HO_3.out).1; omega) | simpa using h_))); (try (obtain rfl := k74_openM hM32)); (try (have HP32 := Kd.R_seg HX32.out (x4_1 : Int) (of_decide_eq_true (by first | (with_reducible assumption) | assumption)) (by have h_ : (x4_1 : Int) < ((x3_1.length : Int) : Int) := of_decide_eq_true (by first | (with_reducible assumption) | assumption); first | exact h_ | (have e_ := (Kd.R_reads' HO_3.out).1; omega) | simpa using h_) (seg := [.int .i64 (wrap64 (((rd_T74 x3_1 x4_1).f1) + 1))]) (j := 1) hcl32 hcc32 (show 2 ≤ 3 from by decide) (x' := (⟨(rd_T74 x3_1 x4_1).f0, wrap64 (((rd_T74 x3_1 x4_1).f1) + 1), (rd_T74 x3_1 x4_1).f2⟩ : S74)) (k74_mkM _ _ _ (⟨(rd_T74 x3_1 x4_1).f0, wrap64 (((rd_T74 x3_1 x4_1).f1) + 1), (rd_T74 x3_1 x4_1).f2⟩ : S74) ) (fun _ hk => hk))); (try (have hx32_1 := hcc32 1 _ rfl)); (try (try simp only [show (k74).sz = 3 from rfl, Nat.mul_one, Nat.add_zero] at hx32_1)); (try (have hf32_1 := hfr32 1)); (try (try simp only [show (k74).sz = 3 from rfl, Nat.mul_one, Nat.add_zero] at hf32_1)); (try (clear hcl32 hcc32 hfr32 hM32)))); refine store_event (t := 3) (p := 52) (v := ?vo_w33) (w1 := (wr.setCell ⟨go28, (x4_1 : Int).toNat * 3 + 1, none⟩ (.int .i64 (wrap64 (((rd_T74 x3_1 x4_1).f1) + 1))))) ?hg ?ho ?hn ?hr ?_; (case ho => rfl); (case hg => rfl); (case hn => rfl); (case hr => first | (go_simp; done) | (go_simp; rfl)); intro w33 hw; have hg : wr.grownBy w33 (some go28) := (by rw [hw]; exact HP32.2); have hp_ : Kd.R k74 74 w33 w.heap.size (fun _ => True) (.slice (some ⟨go28, 0, none⟩) x3_1.length co29) y285 := (by rw [hw, Ny285.out]; exact HP32.1); clear HP32; have n0_ := uD (hp_); have n1_ := uD (blk_grown (g := gb270) (o := .cells #[.int .i64 a0_0, .int .i64 a0_1, .bool a0_2, .slice A0_3 l0_3.length c0_3] 63 (0, 0)) (by (with_reducible repeat (first | refine uH ?_ _ | refine uJ ?_ | refine uG ?_ _)); exact BK270.out) hg (Kd.R_ne HO_3.out BK270.out (by decide))); have n2_ := uD (blk_grown (g := gb271) (o := .cells #[.int .i64 0, .int .i64 0, .bool false, .slice none 0 0] 63 (0, 0)) (by (with_reducible repeat (first | refine uH ?_ _ | refine uJ ?_ | refine uG ?_ _)); exact BK271.out) hg (Kd.R_ne HO_3.out BK271.out (by decide))); have n3_ := uD ((by rw [hw]; exact uM (HB.out) GB28.out : Below w.heap.size w w33)); clear HO_3; clear BK270; clear BK271; clear HB; have HO_3 := n0_; have BK270 := n1_; have BK271 := n2_; have HB := n3_; clear n0_ n1_ n2_ n3_; clear hg hw hp_)); try go_wp2_with (first | ((with_reducible refine gate_store (t := 3) (p := 52) rfl ?_); (try (rw [drewN_self wr]; generalize hq_ : World.drewN wr _ = wr; have n0_ := uD (Kd.R_at hq_ HO_3.out); have n1_ := uD (blk_at hq_ BK270.out); have n2_ := uD (blk_at hq_ BK271.out); have n3_ := uD (below_at hq_ HB.out); clear hq_ HO_3 BK270 BK271 HB; have HO_3 := n0_; have BK270 := n1_; have BK271 := n2_; have HB := n3_; clear n0_ n1_ n2_ n3_; (try (have HX32 := uD (show Kd.R k74 74 wr w.heap.size (fun _ => True) (.slice (some ⟨go28, 0, none⟩) x3_1.length co29) x3_1 from (by (with_reducible repeat (first | apply uU | apply uS | apply uT)); exact HO_3.out)))); (try (obtain ⟨ce32, hcl32, hM32, hcc32, hfr32⟩ := Kd.R_elem HX32.out z74 (x4_1 : Int) (of_decide_eq_true (by first | (with_reducible assumption) | assumption)) (by have h_ : (x4_1 : Int) < ((x3_1.length : Int) : Int) := of_decide_eq_true (by first | (with_reducible assumption) | assumption); first | exact h_ | (have e_ := (Kd.R_reads' HO_3.out).1; omega) | simpa using h_))); (try (obtain rfl := k74_openM hM32)); (try (have HP32 := Kd.R_seg HX32.out (x4_1 : Int) (of_decide_eq_true (by first | (with_reducible assumption) | assumption)) (by have h_ : (x4_1 : Int) < ((x3_1.length : Int) : Int) := of_decide_eq_true (by first | (with_reducible assumption) | assumption); first | exact h_ | (have e_ := (Kd.R_reads' HO_3.out).1; omega) | simpa using h_) (seg := [.int .i64 (wrap64 (((rd_T74 x3_1 x4_1).f1) + 1))]) (j := 1) hcl32 hcc32 (show 2 ≤ 3 from by decide) (x' := (⟨(rd_T74 x3_1 x4_1).f0, wrap64 (((rd_T74 x3_1 x4_1).f1) + 1), (rd_T74 x3_1 x4_1).f2⟩ : S74)) (k74_mkM _ _ _ (⟨(rd_T74 x3_1 x4_1).f0, wrap64 (((rd_T74 x3_1 x4_1).f1) + 1), (rd_T74 x3_1 x4_1).f2⟩ : S74) ) (fun _ hk => hk))); (try (have hx32_1 := hcc32 1 _ rfl)); (try (try simp only [show (k74).sz = 3 from rfl, Nat.mul_one, Nat.add_zero] at hx32_1)); (try (have hf32_1 := hfr32 1)); (try (try simp only [show (k74).sz = 3 from rfl, Nat.mul_one, Nat.add_zero] at hf32_1)); (try (clear hcl32 hcc32 hfr32 hM32)))); refine store_event (t := 3) (p := 52) (v := ?vo_w33) (w1 := (wr.setCell ⟨go28, (x4_1 : Int).toNat * 3 + 1, none⟩ (.int .i64 (wrap64 (((rd_T74 x3_1 x4_1).f1) + 1))))) ?hg ?ho ?hn ?hr ?_; (case ho => rfl); (case hg => rfl); (case hn => rfl); (case hr => first | (go_simp; done) | (go_simp; rfl)); intro w33 hw; have hg : wr.grownBy w33 (some go28) := (by rw [hw]; exact HP32.2); have hp_ : Kd.R k74 74 w33 w.heap.size (fun _ => True) (.slice (some ⟨go28, 0, none⟩) x3_1.length co29) y285 := (by rw [hw, Ny285.out]; exact HP32.1); clear HP32; have n0_ := uD (hp_); have n1_ := uD (blk_grown (g := gb270) (o := .cells #[.int .i64 a0_0, .int .i64 a0_1, .bool a0_2, .slice A0_3 l0_3.length c0_3] 63 (0, 0)) (by (with_reducible repeat (first | refine uH ?_ _ | refine uJ ?_ | refine uG ?_ _)); exact BK270.out) hg (Kd.R_ne HO_3.out BK270.out (by decide))); have n2_ := uD (blk_grown (g := gb271) (o := .cells #[.int .i64 0, .int .i64 0, .bool false, .slice none 0 0] 63 (0, 0)) (by (with_reducible repeat (first | refine uH ?_ _ | refine uJ ?_ | refine uG ?_ _)); exact BK271.out) hg (Kd.R_ne HO_3.out BK271.out (by decide))); have n3_ := uD ((by rw [hw]; exact uM (HB.out) GB28.out : Below w.heap.size w w33)); clear HO_3; clear BK270; clear BK271; clear HB; have HO_3 := n0_; have BK270 := n1_; have BK271 := n2_; have HB := n3_; clear n0_ n1_ n2_ n3_; clear hg hw hp_)))
        go_roundg k1
        case measure => have := HK1.out; omega
        case rel => exact ⟨(y285), (wrap64 (x4_1 + 1)), (by first | rfl | (simp; done) | (simp [*]; done)), H', ⟨by have := HK1.out; omega⟩, ⟨by (with_reducible repeat (first | apply uU | apply uS | apply uT)); exact HO_3.out⟩, ⟨by (with_reducible repeat (first | refine uH ?_ _ | refine uJ ?_ | refine uG ?_ _)); exact BK270.out⟩, ⟨by (with_reducible repeat (first | refine uH ?_ _ | refine uJ ?_ | refine uG ?_ _)); exact BK271.out⟩, ⟨by repeat (first | (with_reducible first | exact HB.out | apply uL | apply uE | apply uK | refine uM ?_ GE270.out | refine uM ?_ GE271.out) | exact HB.out)⟩⟩
       ·rw [if_neg c27] at H
        have c27b0 : decide (((rd_T74 x3_1 x4_1).f1) < a0_0) = false := decide_eq_false c27
        clear c27
        have H' := uD H
        clear H
        obtain ⟨Ao34, co34, eo34⟩ := Kd.R_slice HO_3.out
        subst eo34
        have hnb35 := NB270_271.out
        have hnc35 := NB271_270.out
        have hcz36_0 : wr.cell? ⟨gb270, 0, none⟩ = some (.int .i64 a0_0) := (uF BK270.out 0).trans rfl
        have hcz36_1 : wr.cell? ⟨gb270, 1, none⟩ = some (.int .i64 a0_1) := (uF BK270.out 1).trans rfl
        have hcz36_2 : wr.cell? ⟨gb270, 2, none⟩ = some (.bool a0_2) := (uF BK270.out 2).trans rfl
        have hcz36_3 : wr.cell? ⟨gb270, 3, none⟩ = some (.slice A0_3 l0_3.length c0_3) := (uF BK270.out 3).trans rfl
        have hfz36_0 := uI BK270.out 0
        have hfz36_1 := uI BK270.out 1
        have hfz36_2 := uI BK270.out 2
        have hfz36_3 := uI BK270.out 3
        have p283 : 0 ≤ (x4_1 : Int) := of_decide_eq_true (by first | (with_reducible assumption) | assumption)
        have q283 : x4_1 < (x3_1.length : Int) := of_decide_eq_true (by first | (with_reducible assumption) | assumption)
        obtain ⟨ad283, e283, hx283_0, hx283_1, hx283_2⟩ := at_T74 (Kd.R_reads' HO_3.out).2.2 x4_1 p283 q283
        cases e283
        replace p283 := eq_true p283
        replace q283 := eq_true q283
        go_wp2
        repeat (go_quiet (fail); try go_wp2)
        go_roundg k1
        case measure => have := HK1.out; omega
        case rel => exact ⟨(x3_1), (wrap64 (x4_1 + 1)), (by first | rfl | (simp; done) | (simp [*]; done)), H', ⟨by have := HK1.out; omega⟩, ⟨by (with_reducible repeat (first | apply uU | apply uS | apply uT)); exact HO_3.out⟩, ⟨by (with_reducible repeat (first | refine uH ?_ _ | refine uJ ?_ | refine uG ?_ _)); exact BK270.out⟩, ⟨by (with_reducible repeat (first | refine uH ?_ _ | refine uJ ?_ | refine uG ?_ _)); exact BK271.out⟩, ⟨by repeat (first | (with_reducible first | exact HB.out | apply uL | apply uE | apply uK | refine uM ?_ GE270.out | refine uM ?_ GE271.out) | exact HB.out)⟩⟩
      ·rw [if_neg c26] at H
       exact absurd H (by simp)
    ·rw [if_neg c10] at H
     have c10b0 : decide (x4_1 < (x3_1.length : Int)) = false := decide_eq_false c10
     clear c10
     simp only [Option.some.injEq, Prod.mk.injEq] at H
     obtain ⟨rfl, rfl, rfl, rfl⟩ := H
     obtain ⟨Ao37, co37, eo37⟩ := Kd.R_slice HO_3.out
     subst eo37
     have hnb38 := NB270_271.out
     have hnc38 := NB271_270.out
     have hcz39_0 : wr.cell? ⟨gb270, 0, none⟩ = some (.int .i64 a0_0) := (uF BK270.out 0).trans rfl
     have hcz39_1 : wr.cell? ⟨gb270, 1, none⟩ = some (.int .i64 a0_1) := (uF BK270.out 1).trans rfl
     have hcz39_2 : wr.cell? ⟨gb270, 2, none⟩ = some (.bool a0_2) := (uF BK270.out 2).trans rfl
     have hcz39_3 : wr.cell? ⟨gb270, 3, none⟩ = some (.slice A0_3 l0_3.length c0_3) := (uF BK270.out 3).trans rfl
     have hfz39_0 := uI BK270.out 0
     have hfz39_1 := uI BK270.out 1
     have hfz39_2 := uI BK270.out 2
     have hfz39_3 := uI BK270.out 3
     have hcz40_0 : wr.cell? ⟨gb271, 0, none⟩ = some (.int .i64 0) := (uF BK271.out 0).trans rfl
     have hcz40_1 : wr.cell? ⟨gb271, 1, none⟩ = some (.int .i64 0) := (uF BK271.out 1).trans rfl
     have hcz40_2 : wr.cell? ⟨gb271, 2, none⟩ = some (.bool false) := (uF BK271.out 2).trans rfl
     have hcz40_3 : wr.cell? ⟨gb271, 3, none⟩ = some (.slice none 0 0) := (uF BK271.out 3).trans rfl
     have hfz40_0 := uI BK271.out 0
     have hfz40_1 := uI BK271.out 1
     have hfz40_2 := uI BK271.out 2
     have hfz40_3 := uI BK271.out 3
     go_wp2
     repeat (go_quiet (fail); try go_wp2)
     refine bodyPost_ret (results_cell_row rfl _ _ gb271 63 #[.int .i64 a0_0, .int .i64 a0_1, .bool a0_2, .slice Ao37 x3_1.length co37] (0, 0) _ rfl (by (with_reducible repeat (first | refine uH ?_ _ | refine uJ ?_ | refine uG ?_ _)); refine uP (cs := #[.int .i64 a0_0, .int .i64 a0_1, .bool a0_2, .slice none 0 0]) ?_ 3 _ rfl; (with_reducible repeat (first | refine uH ?_ _ | refine uJ ?_ | refine uG ?_ _)); refine uP (cs := #[.int .i64 a0_0, .int .i64 a0_1, .bool false, .slice none 0 0]) ?_ 2 _ rfl; (with_reducible repeat (first | refine uH ?_ _ | refine uJ ?_ | refine uG ?_ _)); refine uP (cs := #[.int .i64 a0_0, .int .i64 0, .bool false, .slice none 0 0]) ?_ 1 _ rfl; (with_reducible repeat (first | refine uH ?_ _ | refine uJ ?_ | refine uG ?_ _)); refine uP (cs := #[.int .i64 0, .int .i64 0, .bool false, .slice none 0 0]) ?_ 0 _ rfl; (with_reducible repeat (first | refine uH ?_ _ | refine uJ ?_ | refine uG ?_ _)); refine uQ ?_ NB271_270.out _; (with_reducible repeat (first | refine uH ?_ _ | refine uJ ?_ | refine uG ?_ _)); exact BK271.out) Try.underlying63 rfl (by kernel_rfl)) rfl ?_
     exact ⟨_, by first | rfl | (simp [errW_none, errW_some] <;> rfl) | (simp [*, errW_none, errW_some] <;> rfl), by (with_reducible repeat (first | apply uU | apply uS | apply uT)); exact uX (uV (p := ⟨gb271, 3, none⟩) (uV (p := ⟨gb271, 2, none⟩) (uV (p := ⟨gb271, 1, none⟩) (uV (p := ⟨gb271, 0, none⟩) (uV (p := ⟨gb270, 3, none⟩) (uW (uW HO_3.out BK270.out (by decide)) BK271.out (by decide)) (fun _ hk => hk.1.2) (.slice Ao37 x3_1.length co37)) (fun _ hk => hk.2) (.int .i64 a0_0)) (fun _ hk => hk.2) (.int .i64 a0_1)) (fun _ hk => hk.2) (.bool a0_2)) (fun _ hk => hk.2) (.slice Ao37 x3_1.length co37)) (fun _ hk => trivial), by repeat (first | (with_reducible first | exact HB.out | apply uL | apply uE | apply uK | refine uM ?_ GE270.out | refine uM ?_ GE271.out) | exact HB.out)⟩
 ·rw [if_neg c2] at H
  exact absurd H (by simp)

/-! ### spec_Run: function 47 -/
mutual
def spec_Run.j0 : Nat → Int → List (S116) → Bool → Int → Int → Bool → List (S74) → Option (Int × Int × Bool × (List (S74)) × (List (S116)))
 | 0, _, _, _, _, _, _, _ => none
 | k + 1, x1, x6, x21, x287000, x287001, x287002, x287003 => if x21 = true then (some (x287000, x287001, x287002, x287003, x6)) else (spec_Run.l0 k x1 x6 0 x287000 x287001 x287002 x287003)
def spec_Run.l0 : Nat → Int → List (S116) → Int → Int → Int → Bool → List (S74) → Option (Int × Int × Bool × (List (S74)) × (List (S116)))
 | 0, _, _, _, _, _, _, _ => none
 | k + 1, x1, x6, x7, x287000, x287001, x287002, x287003 => if x7 < x1 then ((spec_Leave.f k x287000 x287001 x287002 x287003).bind fun bt299 => (if bt299.2.2.2.2.2 = true then (if x6.length < 8796093022208 then ((spec_l02Step.f k bt299.1 bt299.2.1 bt299.2.2.1 bt299.2.2.2.1).bind fun bt311 => (spec_Run.l0 k x1 (x6 ++ [(⟨bt299.2.2.2.2.1, x7⟩ : S116)]) (wrap64 (x7 + 1)) bt311.1 bt311.2.1 bt311.2.2.1 bt311.2.2.2)) else (none)) else ((spec_l02Step.f k bt299.1 bt299.2.1 bt299.2.2.1 bt299.2.2.2.1).bind fun bt317 => (spec_Run.l0 k x1 x6 (wrap64 (x7 + 1)) bt317.1 bt317.2.1 bt317.2.2.1 bt317.2.2.2)))) else (some (x287000, x287001, x287002, x287003, x6))
end
def spec_Run.f (k : Nat) (a0_0 : Int) (a0_1 : Int) (a0_2 : Bool) (l0_3 : List (S74)) (a1 : Int) : Option (Int × Int × Bool × (List (S74)) × (List (S116))) := (spec_l02Fresh.f a0_0 a0_1 a0_2 l0_3).bind fun bt288 => ((some (([] : List (S116)) : List (S116))).bind fun y294 => ((spec_BeltOk.f k bt288.1 bt288.2.1 bt288.2.2.1 bt288.2.2.2).bind fun t297 => (if t297 = true then ((spec_l01In.f a1 0 2000).bind fun t298 => (spec_Run.j0 k a1 y294 (!t298) bt288.1 bt288.2.1 bt288.2.2.1 bt288.2.2.2)) else (spec_Run.j0 k a1 y294 true bt288.1 bt288.2.1 bt288.2.2.1 bt288.2.2.2))))
theorem spec_Run.mono_l : ∀ k, (∀ y0 y1 y2 y3 y4 y5 y6, LeO (spec_Run.j0 k y0 y1 y2 y3 y4 y5 y6) (spec_Run.j0 (k + 1) y0 y1 y2 y3 y4 y5 y6)) ∧ (∀ y0 y1 y2 y3 y4 y5 y6, LeO (spec_Run.l0 k y0 y1 y2 y3 y4 y5 y6) (spec_Run.l0 (k + 1) y0 y1 y2 y3 y4 y5 y6))
 | 0 => ⟨fun _ _ _ _ _ _ _ r h => by simp [spec_Run.j0] at h, fun _ _ _ _ _ _ _ r h => by simp [spec_Run.l0] at h⟩
 | k + 1 => by
  obtain ⟨ih0, ih1⟩ := spec_Run.mono_l k
  refine ⟨?_, ?_⟩
  ·intro y0 y1 y2 y3 y4 y5 y6
   unfold spec_Run.j0
   repeat' first
   | (with_reducible exact ih0 _ _ _ _ _ _ _)
   | (with_reducible exact ih1 _ _ _ _ _ _ _)
   | (with_reducible exact spec_BeltOk.mono _ _ _ _ _)
   | (with_reducible exact spec_Leave.mono _ _ _ _ _)
   | (with_reducible exact spec_l02Step.mono _ _ _ _ _)
   | (with_reducible exact LeO.refl _)
   | (with_reducible exact LeO.none _)
   | (with_reducible refine LeO.ite ?_ ?_)
   | (with_reducible refine LeO.bind ?_ (fun _ => ?_))
   | exact ih0 _ _ _ _ _ _ _
   | exact ih1 _ _ _ _ _ _ _
   | exact spec_BeltOk.mono _ _ _ _ _
   | exact spec_Leave.mono _ _ _ _ _
   | exact spec_l02Step.mono _ _ _ _ _
   | exact LeO.none _
   | refine LeO.ite ?_ ?_
   | refine LeO.bind ?_ (fun _ => ?_)
  ·intro y0 y1 y2 y3 y4 y5 y6
   unfold spec_Run.l0
   repeat' first
   | (with_reducible exact ih0 _ _ _ _ _ _ _)
   | (with_reducible exact ih1 _ _ _ _ _ _ _)
   | (with_reducible exact spec_BeltOk.mono _ _ _ _ _)
   | (with_reducible exact spec_Leave.mono _ _ _ _ _)
   | (with_reducible exact spec_l02Step.mono _ _ _ _ _)
   | (with_reducible exact LeO.refl _)
   | (with_reducible exact LeO.none _)
   | (with_reducible refine LeO.ite ?_ ?_)
   | (with_reducible refine LeO.bind ?_ (fun _ => ?_))
   | exact ih0 _ _ _ _ _ _ _
   | exact ih1 _ _ _ _ _ _ _
   | exact spec_BeltOk.mono _ _ _ _ _
   | exact spec_Leave.mono _ _ _ _ _
   | exact spec_l02Step.mono _ _ _ _ _
   | exact LeO.none _
   | refine LeO.ite ?_ ?_
   | refine LeO.bind ?_ (fun _ => ?_)
theorem spec_Run.mono : ∀ a0 a1 a2 a3 a4 k, LeO (spec_Run.f k a0 a1 a2 a3 a4) (spec_Run.f (k + 1) a0 a1 a2 a3 a4) := by
 intro a0 a1 a2 a3 a4 k
 obtain ⟨ih0, ih1⟩ := spec_Run.mono_l k
 unfold spec_Run.f
 repeat' first
   | (with_reducible exact ih0 _ _ _ _ _ _ _)
   | (with_reducible exact ih1 _ _ _ _ _ _ _)
   | (with_reducible exact spec_BeltOk.mono _ _ _ _ _)
   | (with_reducible exact spec_Leave.mono _ _ _ _ _)
   | (with_reducible exact spec_l02Step.mono _ _ _ _ _)
   | (with_reducible exact LeO.refl _)
   | (with_reducible exact LeO.none _)
   | (with_reducible refine LeO.ite ?_ ?_)
   | (with_reducible refine LeO.bind ?_ (fun _ => ?_))
   | exact ih0 _ _ _ _ _ _ _
   | exact ih1 _ _ _ _ _ _ _
   | exact spec_BeltOk.mono _ _ _ _ _
   | exact spec_Leave.mono _ _ _ _ _
   | exact spec_l02Step.mono _ _ _ _ _
   | exact LeO.none _
   | refine LeO.ite ?_ ?_
   | refine LeO.bind ?_ (fun _ => ?_)
set_option maxHeartbeats 8000000 in
set_option maxRecDepth 100000 in
theorem spec_Run.calls (k : Nat) (a0_0 : Int) (a0_1 : Int) (a0_2 : Bool) (A0_3 : Option Addr) (c0_3 : Nat) (l0_3 : List (S74)) (a1 : Int) (r1 : Int) (r2 : Int) (r3 : Bool) (r4 : List (S74)) (r5 : List (S116)) (w : World) (hr0_3 : Kd.C k74 w A0_3 l0_3.length l0_3) (hc0_3 : l0_3.length ≤ c0_3) (h : spec_Run.f k a0_0 a0_1 a0_2 l0_3 a1 = some (r1, r2, r3, r4, r5)) :
  Calls Try.prog 47 #[.agg #[.int .i64 a0_0, .int .i64 a0_1, .bool a0_2, .slice A0_3 l0_3.length c0_3], .int .i64 a1] w fun e w' => ∃ v3_ v4_ : Value, e = .returned (.tuple #[.agg #[.int .i64 r1, .int .i64 r2, .bool r3, v3_], v4_]) ∧ Kd.R k74 74 w' w.heap.size (fun _ => True) v3_ r4 ∧ Kd.R k116 116 w' w.heap.size (fun _ => True) v4_ r5 ∧ Below w.heap.size w w' := by
 have hu63 := Try.underlying63
 have hu116 := Try.underlying116
 have HR0_3 := uD hr0_3
 have HC0_3 := uD hc0_3
 clear hr0_3 hc0_3
 have HB := uD (Below.refl w.heap.size w)
 have H : ((spec_l02Fresh.f a0_0 a0_1 a0_2 l0_3).bind fun bt288 => ((some (([] : List (S116)) : List (S116))).bind fun y294 => ((spec_BeltOk.f k bt288.1 bt288.2.1 bt288.2.2.1 bt288.2.2.2).bind fun t297 => (if t297 = true then ((spec_l01In.f a1 0 2000).bind fun t298 => (spec_Run.j0 k a1 y294 (!t298) bt288.1 bt288.2.1 bt288.2.2.1 bt288.2.2.2)) else (spec_Run.j0 k a1 y294 true bt288.1 bt288.2.1 bt288.2.2.1 bt288.2.2.2))))) = some (r1, r2, r3, r4, r5) := h
 clear h
 replace H := Option.bind_eq_some_iff.mp H
 obtain ⟨⟨t288, t289, t290, t291⟩, A30, H⟩ := H
 replace H : ((some (([] : List (S116)) : List (S116))).bind fun y294 => ((spec_BeltOk.f k t288 t289 t290 t291).bind fun t297 => (if t297 = true then ((spec_l01In.f a1 0 2000).bind fun t298 => (spec_Run.j0 k a1 y294 (!t298) t288 t289 t290 t291)) else (spec_Run.j0 k a1 y294 true t288 t289 t290 t291)))) = some (r1, r2, r3, r4, r5) := H
 have A3 := uD A30
 clear A30
 obtain ⟨y294, hy294⟩ : ∃ y_ : List (S116), y_ = (([] : List (S116))) := ⟨_, rfl⟩
 replace H : ((spec_BeltOk.f k t288 t289 t290 t291).bind fun t297 => (if t297 = true then ((spec_l01In.f a1 0 2000).bind fun t298 => (spec_Run.j0 k a1 y294 (!t298) t288 t289 t290 t291)) else (spec_Run.j0 k a1 y294 true t288 t289 t290 t291))) = some (r1, r2, r3, r4, r5) := by first | (rw [hy294]; with_reducible exact H) | (have H2_ := (Option.bind_some _ _).symm.trans H; rw [hy294]; with_reducible exact H2_) | (have H2_ := (Option.bind_some _ _).symm.trans H; with_reducible exact H2_) | with_reducible exact H | (rw [hy294]; exact H) | exact H
 have Ny294 := uD hy294
 clear hy294
 have HC4 := uD H
 clear H
 go_enter Try.func47, Try.ntmps47
 go_upto_region 3 with (first | ((with_reducible refine gate_dst (N := 2) rfl ?_); refine box_event ?hg (N := 2) ?hd (cs := #[.int .i64 a0_0, .int .i64 a0_1, .bool a0_2, .slice A0_3 l0_3.length c0_3]) (t := 63) ?hr ?_; (case hd => rfl); (case hg => rfl); (case hr => first | (go_simp; done) | (go_simp; rfl)); intro gb286 hg w5 hbox hb; have n0_ := uD (uO (by repeat (first | (with_reducible first | exact HB.out | apply uL | apply uE | apply uK) | exact HB.out)) hb); have n1_ := uD (hbox); have n2_ := uD ((by rw [hg]; exact (uN (by repeat (first | (with_reducible first | exact HB.out | apply uL | apply uE | apply uK) | exact HB.out))) : w.heap.size ≤ gb286)); have n3_ := uD ((by rw [hg]; exact (uN (by repeat (first | (with_reducible first | exact HB.out | apply uL | apply uE | apply uK) | exact HB.out))) : w.heap.size ≤ gb286)); clear HB; have HB := n0_; have BK286 := n1_; have GW286 := n2_; have GE286 := n3_; clear n0_ n1_ n2_ n3_; clear hb hbox hg) | ((with_reducible refine gate_dst (N := 4) rfl ?_); refine box_event ?hg (N := 4) ?hd (cs := #[.int .i64 0, .int .i64 0, .bool false, .slice none 0 0]) (t := 63) ?hr ?_; (case hd => rfl); (case hg => rfl); (case hr => first | (go_simp; done) | (go_simp; rfl)); intro gb287 hg w6 hbox hb; have n0_ := uD (blk_below (g := gb286) (o := .cells #[.int .i64 a0_0, .int .i64 a0_1, .bool a0_2, .slice A0_3 l0_3.length c0_3] 63 (0, 0)) (by (with_reducible repeat (first | refine uH ?_ _ | refine uJ ?_ | refine uG ?_ _)); exact BK286.out) hb); have n1_ := uD (uO (by repeat (first | (with_reducible first | exact HB.out | apply uL | apply uE | apply uK | refine uM ?_ GE286.out) | exact HB.out)) hb); have n2_ := uD (hbox); have n3_ := uD ((by rw [hg]; exact (uN (by repeat (first | (with_reducible first | exact HB.out | apply uL | apply uE | apply uK | refine uM ?_ GE286.out) | exact HB.out))) : w.heap.size ≤ gb287)); have n4_ := uD ((by rw [hg]; exact (uN (by repeat (first | (with_reducible first | exact HB.out | apply uL | apply uE | apply uK | refine uM ?_ GE286.out) | exact HB.out))) : w.heap.size ≤ gb287)); have n5_ := uD ((by rw [hg]; exact Nat.ne_of_lt (blk_lt (g := gb286) (o := .cells #[.int .i64 a0_0, .int .i64 a0_1, .bool a0_2, .slice A0_3 l0_3.length c0_3] 63 (0, 0)) (by (with_reducible repeat (first | refine uH ?_ _ | refine uJ ?_ | refine uG ?_ _)); exact BK286.out)) : gb286 ≠ gb287)); have n6_ := uD ((by rw [hg]; exact Nat.ne_of_gt (blk_lt (g := gb286) (o := .cells #[.int .i64 a0_0, .int .i64 a0_1, .bool a0_2, .slice A0_3 l0_3.length c0_3] 63 (0, 0)) (by (with_reducible repeat (first | refine uH ?_ _ | refine uJ ?_ | refine uG ?_ _)); exact BK286.out)) : gb287 ≠ gb286)); clear BK286; clear HB; have BK286 := n0_; have HB := n1_; have BK287 := n2_; have GW287 := n3_; have GE287 := n4_; have NB286_287 := n5_; have NB287_286 := n6_; clear n0_ n1_ n2_ n3_ n4_ n5_ n6_; clear hb hbox hg; have hnb7 := NB286_287.out; have hnc7 := NB287_286.out; have hcz8_0 : w6.cell? ⟨gb286, 0, none⟩ = some (.int .i64 a0_0) := (uF BK286.out 0).trans rfl; have hcz8_1 : w6.cell? ⟨gb286, 1, none⟩ = some (.int .i64 a0_1) := (uF BK286.out 1).trans rfl; have hcz8_2 : w6.cell? ⟨gb286, 2, none⟩ = some (.bool a0_2) := (uF BK286.out 2).trans rfl; have hcz8_3 : w6.cell? ⟨gb286, 3, none⟩ = some (.slice A0_3 l0_3.length c0_3) := (uF BK286.out 3).trans rfl; have hfz8_0 := uI BK286.out 0; have hfz8_1 := uI BK286.out 1; have hfz8_2 := uI BK286.out 2; have hfz8_3 := uI BK286.out 3) | ((with_reducible refine gate_callee (f := 84) rfl ?_); refine goesL_ (some 12) rfl rfl Try.func84 (by kernel_rfl) rfl #[.agg #[.int .i64 a0_0, .int .i64 a0_1, .bool a0_2, .slice A0_3 l0_3.length c0_3]] rfl (by (try simp only [List.map_toArray, List.map_cons, List.map_nil]); first | done | rfl | (simp only [List.length_drop, List.length_take]; rfl)) ?_; (with_reducible refine (spec_l02Fresh.calls a0_0 a0_1 a0_2 _ _ l0_3 t288 t289 t290 t291 _ ?side1 ?side2 A3.out).mono ?_); (case side1 => repeat (first | exact (Kd.C_below HR0_3.out HB.out) | (with_reducible refine Kd.C_alloc ?_ _) | (with_reducible refine Kd.C_drewN ?_ _) | (with_reducible refine Kd.C_drew ?_))); (case side2 => exact HC0_3.out); rintro e w9 ⟨v292, rfl, ho0, hb⟩; refine ⟨_, rfl, ?_⟩; have n0_ := uD (Kd.R_lower ho0 (uN (by repeat (first | (with_reducible first | exact HB.out | apply uL | apply uE | apply uK | refine uM ?_ GE286.out | refine uM ?_ GE287.out) | exact HB.out)))); have n1_ := uD (blk_below (g := gb286) (o := .cells #[.int .i64 a0_0, .int .i64 a0_1, .bool a0_2, .slice A0_3 l0_3.length c0_3] 63 (0, 0)) (by (with_reducible repeat (first | refine uH ?_ _ | refine uJ ?_ | refine uG ?_ _)); exact BK286.out) hb); have n2_ := uD (blk_below (g := gb287) (o := .cells #[.int .i64 0, .int .i64 0, .bool false, .slice none 0 0] 63 (0, 0)) (by (with_reducible repeat (first | refine uH ?_ _ | refine uJ ?_ | refine uG ?_ _)); exact BK287.out) hb); have n3_ := uD (uO (by repeat (first | (with_reducible first | exact HB.out | apply uL | apply uE | apply uK | refine uM ?_ GE286.out | refine uM ?_ GE287.out) | exact HB.out)) hb); clear BK286; clear BK287; clear HB; have HO293 := n0_; have BK286 := n1_; have BK287 := n2_; have HB := n3_; clear n0_ n1_ n2_ n3_; (try clear hb); (try clear hb2); (try clear hk); (try clear hi); (try clear ho0); have hcz10_0 : w9.cell? ⟨gb286, 0, none⟩ = some (.int .i64 a0_0) := (uF BK286.out 0).trans rfl; have hcz10_1 : w9.cell? ⟨gb286, 1, none⟩ = some (.int .i64 a0_1) := (uF BK286.out 1).trans rfl; have hcz10_2 : w9.cell? ⟨gb286, 2, none⟩ = some (.bool a0_2) := (uF BK286.out 2).trans rfl; have hcz10_3 : w9.cell? ⟨gb286, 3, none⟩ = some (.slice A0_3 l0_3.length c0_3) := (uF BK286.out 3).trans rfl; have hfz10_0 := uI BK286.out 0; have hfz10_1 := uI BK286.out 1; have hfz10_2 := uI BK286.out 2; have hfz10_3 := uI BK286.out 3; obtain ⟨Ao11, co11, eo11⟩ := Kd.R_slice HO293.out; subst eo11) | ((with_reducible refine gate_dst (N := 13) rfl ?_); refine Kd.R_lit k116 _ 116 ?hg (N := 13) ?hd (xs := ([] : List (S116))) (inner := []) (ok := fun _ => True) (okp := fun _ => True) ?hr ?hp (fun _ hk => hk) trivial (Below.refl _ _) (Nat.le_refl _) (by simp) ?_; (case hd => rfl); (case hg => rfl); (case hr => first | (go_simp; done) | (go_simp; rfl)); (case hp => exact (Reps.none _ _)); intro v295 w12 ho13 hb hg_ hnew_; clear hg_ hnew_; (first | rw [← Ny294.out] at ho13 | (simp only [Int.reduceToNat] at ho13; rw [← Ny294.out] at ho13)); have n0_ := uD (Kd.R_below (by (with_reducible repeat (first | apply uU | apply uS | apply uT)); exact (uX (uV (p := ⟨gb286, 3, none⟩) (uV (p := ⟨gb286, 2, none⟩) (uV (p := ⟨gb286, 1, none⟩) (uV (p := ⟨gb286, 0, none⟩) (uW HO293.out BK286.out (by decide)) (fun _ hk => hk.2) (.int .i64 t288)) (fun _ hk => hk.2) (.int .i64 t289)) (fun _ hk => hk.2) (.bool t290)) (fun _ hk => hk.2) (.slice Ao11 t291.length co11)) (fun _ h_ => h_.1))) hb); have n1_ := uD (Kd.R_lower ho13 (uN (by repeat (first | (with_reducible first | exact HB.out | apply uL | apply uE | apply uK | refine uM ?_ GE286.out | refine uM ?_ GE287.out) | exact HB.out)))); have n2_ := uD (blk_below (g := gb286) (o := .cells #[.int .i64 t288, .int .i64 t289, .bool t290, .slice Ao11 t291.length co11] 63 (0, 0)) (by (with_reducible repeat (first | refine uH ?_ _ | refine uJ ?_ | refine uG ?_ _)); refine uP (cs := #[.int .i64 t288, .int .i64 t289, .bool t290, .slice A0_3 l0_3.length c0_3]) ?_ 3 _ rfl; (with_reducible repeat (first | refine uH ?_ _ | refine uJ ?_ | refine uG ?_ _)); refine uP (cs := #[.int .i64 t288, .int .i64 t289, .bool a0_2, .slice A0_3 l0_3.length c0_3]) ?_ 2 _ rfl; (with_reducible repeat (first | refine uH ?_ _ | refine uJ ?_ | refine uG ?_ _)); refine uP (cs := #[.int .i64 t288, .int .i64 a0_1, .bool a0_2, .slice A0_3 l0_3.length c0_3]) ?_ 1 _ rfl; (with_reducible repeat (first | refine uH ?_ _ | refine uJ ?_ | refine uG ?_ _)); refine uP (cs := #[.int .i64 a0_0, .int .i64 a0_1, .bool a0_2, .slice A0_3 l0_3.length c0_3]) ?_ 0 _ rfl; (with_reducible repeat (first | refine uH ?_ _ | refine uJ ?_ | refine uG ?_ _)); exact BK286.out) hb); have n3_ := uD (blk_below (g := gb287) (o := .cells #[.int .i64 0, .int .i64 0, .bool false, .slice none 0 0] 63 (0, 0)) (by (with_reducible repeat (first | refine uH ?_ _ | refine uJ ?_ | refine uG ?_ _)); refine uQ ?_ NB287_286.out _; (with_reducible repeat (first | refine uH ?_ _ | refine uJ ?_ | refine uG ?_ _)); refine uQ ?_ NB287_286.out _; (with_reducible repeat (first | refine uH ?_ _ | refine uJ ?_ | refine uG ?_ _)); refine uQ ?_ NB287_286.out _; (with_reducible repeat (first | refine uH ?_ _ | refine uJ ?_ | refine uG ?_ _)); refine uQ ?_ NB287_286.out _; (with_reducible repeat (first | refine uH ?_ _ | refine uJ ?_ | refine uG ?_ _)); exact BK287.out) hb); have n4_ := uD (uO (by repeat (first | (with_reducible first | exact HB.out | apply uL | apply uE | apply uK | refine uM ?_ GE286.out | refine uM ?_ GE287.out) | exact HB.out)) hb); clear HO293; clear BK286; clear BK287; clear HB; have HO293 := n0_; have HO296 := n1_; have BK286 := n2_; have BK287 := n3_; have HB := n4_; clear n0_ n1_ n2_ n3_ n4_; clear hb ho13))
 (try simp only [uc, uA, uB, uC])
 go_cut [21] (fun v21 wc => ∃ (kq : Nat) (x21_3 : Bool), v21 = .bool x21_3 ∧ Aside0 (spec_Run.j0 kq a1 y294 x21_3 t288 t289 t290 t291 = some (r1, r2, r3, r4, r5)) ∧ Aside0 (kq ≤ k) ∧ Aside0 (Kd.R k116 116 wc w.heap.size (fun _ => True) v295 y294) ∧ Aside0 (Kd.R k74 74 wc w.heap.size (fun _ => True) (.slice Ao11 t291.length co11) t291) ∧ Aside0 (wc.heap[gb286]? = some (.cells #[.int .i64 t288, .int .i64 t289, .bool t290, (.slice Ao11 t291.length co11)] 63 (0, 0))) ∧ Aside0 (wc.heap[gb287]? = some (.cells #[.int .i64 0, .int .i64 0, .bool false, (.slice none 0 0)] 63 (0, 0))) ∧ Aside0 (Below w.heap.size w wc))
 case first =>
  have H := HC4.out
  clear HC4
  replace H := Option.bind_eq_some_iff.mp H
  obtain ⟨t297, A140, H⟩ := H
  replace H : (if t297 = true then ((spec_l01In.f a1 0 2000).bind fun t298 => (spec_Run.j0 k a1 y294 (!t298) t288 t289 t290 t291)) else (spec_Run.j0 k a1 y294 true t288 t289 t290 t291)) = some (r1, r2, r3, r4, r5) := H
  have A14 := uD A140
  clear A140
  by_cases c15 : t297 = true
  ·subst c15
   have H1 : ((spec_l01In.f a1 0 2000).bind fun t298 => (spec_Run.j0 k a1 y294 (!t298) t288 t289 t290 t291)) = some (r1, r2, r3, r4, r5) := by rw [if_pos rfl] at H; first | done | exact H
   clear H
   have H := H1
   clear H1
   replace H := Option.bind_eq_some_iff.mp H
   obtain ⟨t298, A160, H⟩ := H
   replace H : (spec_Run.j0 k a1 y294 (!t298) t288 t289 t290 t291) = some (r1, r2, r3, r4, r5) := H
   have A16 := uD A160
   clear A160
   have H' := uD H
   clear H
   have hnb17 := NB286_287.out
   have hnc17 := NB287_286.out
   have hcz18_0 : w12.cell? ⟨gb286, 0, none⟩ = some (.int .i64 t288) := (uF BK286.out 0).trans rfl
   have hcz18_1 : w12.cell? ⟨gb286, 1, none⟩ = some (.int .i64 t289) := (uF BK286.out 1).trans rfl
   have hcz18_2 : w12.cell? ⟨gb286, 2, none⟩ = some (.bool t290) := (uF BK286.out 2).trans rfl
   have hcz18_3 : w12.cell? ⟨gb286, 3, none⟩ = some (.slice Ao11 t291.length co11) := (uF BK286.out 3).trans rfl
   have hfz18_0 := uI BK286.out 0
   have hfz18_1 := uI BK286.out 1
   have hfz18_2 := uI BK286.out 2
   have hfz18_3 := uI BK286.out 3
   go_wp2_with (first | ((with_reducible refine gate_callee (f := 75) rfl ?_); refine goesL_ (some 15) rfl rfl Try.func75 (by kernel_rfl) rfl #[.agg #[.int .i64 t288, .int .i64 t289, .bool t290, .slice Ao11 t291.length co11]] rfl (by (try simp only [List.map_toArray, List.map_cons, List.map_nil]); first | done | rfl | (simp only [List.length_drop, List.length_take]; rfl)) ?_; (with_reducible refine (spec_BeltOk.calls k t288 t289 t290 _ _ t291 true _ ?side1 ?side2 A14.out).mono ?_); (case side1 => repeat (first | exact (Kd.R_reads' HO293.out).2.2 | (with_reducible refine Kd.C_alloc ?_ _) | (with_reducible refine Kd.C_drewN ?_ _) | (with_reducible refine Kd.C_drew ?_))); (case side2 => exact (Kd.R_reads' HO293.out).2.1); rintro e w19 ⟨rfl, hb⟩; refine ⟨_, rfl, ?_⟩; have n0_ := uD (Kd.R_below (by (with_reducible repeat (first | apply uU | apply uS | apply uT)); exact HO293.out) hb); have n1_ := uD (Kd.R_below (by (with_reducible repeat (first | apply uU | apply uS | apply uT)); exact HO296.out) hb); have n2_ := uD (blk_below (g := gb286) (o := .cells #[.int .i64 t288, .int .i64 t289, .bool t290, .slice Ao11 t291.length co11] 63 (0, 0)) (by (with_reducible repeat (first | refine uH ?_ _ | refine uJ ?_ | refine uG ?_ _)); exact BK286.out) hb); have n3_ := uD (blk_below (g := gb287) (o := .cells #[.int .i64 0, .int .i64 0, .bool false, .slice none 0 0] 63 (0, 0)) (by (with_reducible repeat (first | refine uH ?_ _ | refine uJ ?_ | refine uG ?_ _)); exact BK287.out) hb); have n4_ := uD (uO (by repeat (first | (with_reducible first | exact HB.out | apply uL | apply uE | apply uK | refine uM ?_ GE286.out | refine uM ?_ GE287.out) | exact HB.out)) hb); clear HO293; clear HO296; clear BK286; clear BK287; clear HB; have HO293 := n0_; have HO296 := n1_; have BK286 := n2_; have BK287 := n3_; have HB := n4_; clear n0_ n1_ n2_ n3_ n4_; (try clear hb); (try clear hb2); (try clear hk); (try clear hi)) | (go_at_call 57; (with_reducible refine (spec_l01In.calls a1 0 2000 t298 _ A16.out).mono ?_); rintro e w' ⟨rfl, ⟨nd, rfl⟩⟩))
   go_meet
   case rel => exact ⟨_, (!t298), (by first | rfl | (simp; done) | (simp [*]; done)), H', ⟨by first | omega | exact Nat.le_refl _⟩, ⟨by (with_reducible repeat (first | apply uU | apply uS | apply uT)); exact HO296.out⟩, ⟨by (with_reducible repeat (first | apply uU | apply uS | apply uT)); exact HO293.out⟩, ⟨by (with_reducible repeat (first | refine uH ?_ _ | refine uJ ?_ | refine uG ?_ _)); exact BK286.out⟩, ⟨by (with_reducible repeat (first | refine uH ?_ _ | refine uJ ?_ | refine uG ?_ _)); exact BK287.out⟩, ⟨by repeat (first | (with_reducible first | exact HB.out | apply uL | apply uE | apply uK | refine uM ?_ GE286.out | refine uM ?_ GE287.out) | exact HB.out)⟩⟩
  ·replace c15 := Bool.eq_false_iff.mpr c15
   subst c15
   have H1 : (spec_Run.j0 k a1 y294 true t288 t289 t290 t291) = some (r1, r2, r3, r4, r5) := by rw [if_neg (show ¬ (false = true) by decide)] at H; first | done | exact H
   clear H
   have H := H1
   clear H1
   have H' := uD H
   clear H
   have hnb20 := NB286_287.out
   have hnc20 := NB287_286.out
   have hcz21_0 : w12.cell? ⟨gb286, 0, none⟩ = some (.int .i64 t288) := (uF BK286.out 0).trans rfl
   have hcz21_1 : w12.cell? ⟨gb286, 1, none⟩ = some (.int .i64 t289) := (uF BK286.out 1).trans rfl
   have hcz21_2 : w12.cell? ⟨gb286, 2, none⟩ = some (.bool t290) := (uF BK286.out 2).trans rfl
   have hcz21_3 : w12.cell? ⟨gb286, 3, none⟩ = some (.slice Ao11 t291.length co11) := (uF BK286.out 3).trans rfl
   have hfz21_0 := uI BK286.out 0
   have hfz21_1 := uI BK286.out 1
   have hfz21_2 := uI BK286.out 2
   have hfz21_3 := uI BK286.out 3
   go_wp2_with (first | ((with_reducible refine gate_callee (f := 75) rfl ?_); refine goesL_ (some 15) rfl rfl Try.func75 (by kernel_rfl) rfl #[.agg #[.int .i64 t288, .int .i64 t289, .bool t290, .slice Ao11 t291.length co11]] rfl (by (try simp only [List.map_toArray, List.map_cons, List.map_nil]); first | done | rfl | (simp only [List.length_drop, List.length_take]; rfl)) ?_; (with_reducible refine (spec_BeltOk.calls k t288 t289 t290 _ _ t291 false _ ?side1 ?side2 A14.out).mono ?_); (case side1 => repeat (first | exact (Kd.R_reads' HO293.out).2.2 | (with_reducible refine Kd.C_alloc ?_ _) | (with_reducible refine Kd.C_drewN ?_ _) | (with_reducible refine Kd.C_drew ?_))); (case side2 => exact (Kd.R_reads' HO293.out).2.1); rintro e w22 ⟨rfl, hb⟩; refine ⟨_, rfl, ?_⟩; have n0_ := uD (Kd.R_below (by (with_reducible repeat (first | apply uU | apply uS | apply uT)); exact HO293.out) hb); have n1_ := uD (Kd.R_below (by (with_reducible repeat (first | apply uU | apply uS | apply uT)); exact HO296.out) hb); have n2_ := uD (blk_below (g := gb286) (o := .cells #[.int .i64 t288, .int .i64 t289, .bool t290, .slice Ao11 t291.length co11] 63 (0, 0)) (by (with_reducible repeat (first | refine uH ?_ _ | refine uJ ?_ | refine uG ?_ _)); exact BK286.out) hb); have n3_ := uD (blk_below (g := gb287) (o := .cells #[.int .i64 0, .int .i64 0, .bool false, .slice none 0 0] 63 (0, 0)) (by (with_reducible repeat (first | refine uH ?_ _ | refine uJ ?_ | refine uG ?_ _)); exact BK287.out) hb); have n4_ := uD (uO (by repeat (first | (with_reducible first | exact HB.out | apply uL | apply uE | apply uK | refine uM ?_ GE286.out | refine uM ?_ GE287.out) | exact HB.out)) hb); clear HO293; clear HO296; clear BK286; clear BK287; clear HB; have HO293 := n0_; have HO296 := n1_; have BK286 := n2_; have BK287 := n3_; have HB := n4_; clear n0_ n1_ n2_ n3_ n4_; (try clear hb); (try clear hb2); (try clear hk); (try clear hi)))
   go_meet
   case rel => exact ⟨_, (true), (by first | rfl | (simp; done) | (simp [*]; done)), H', ⟨by first | omega | exact Nat.le_refl _⟩, ⟨by (with_reducible repeat (first | apply uU | apply uS | apply uT)); exact HO296.out⟩, ⟨by (with_reducible repeat (first | apply uU | apply uS | apply uT)); exact HO293.out⟩, ⟨by (with_reducible repeat (first | refine uH ?_ _ | refine uJ ?_ | refine uG ?_ _)); exact BK286.out⟩, ⟨by (with_reducible repeat (first | refine uH ?_ _ | refine uJ ?_ | refine uG ?_ _)); exact BK287.out⟩, ⟨by repeat (first | (with_reducible first | exact HB.out | apply uL | apply uE | apply uK | refine uM ?_ GE286.out | refine uM ?_ GE287.out) | exact HB.out)⟩⟩
 case rest =>
  clear HC4
  try clear c1
  try clear c2
  try clear p2
  try clear c4
  try clear c7
  try clear c8
  try clear c15
  try clear c17
  try clear c20
  try clear hcz10_0
  try clear hcz10_1
  try clear hcz10_2
  try clear hcz10_3
  try clear hcz18_0
  try clear hcz18_1
  try clear hcz18_2
  try clear hcz18_3
  try clear hcz21_0
  try clear hcz21_1
  try clear hcz21_2
  try clear hcz21_3
  try clear hcz8_0
  try clear hcz8_1
  try clear hcz8_2
  try clear hcz8_3
  try clear hfz10_0
  try clear hfz10_1
  try clear hfz10_2
  try clear hfz10_3
  try clear hfz18_0
  try clear hfz18_1
  try clear hfz18_2
  try clear hfz18_3
  try clear hfz21_0
  try clear hfz21_1
  try clear hfz21_2
  try clear hfz21_3
  try clear hfz8_0
  try clear hfz8_1
  try clear hfz8_2
  try clear hfz8_3
  obtain ⟨kq, x21_3, rfl, HA, HJ3, HO_6, HO_287003, BK286, BK287, HB⟩ := hcut
  cases kq with
  | zero => exact absurd HA.out (by simp [spec_Run.j0])
  | succ kj3 =>
   have H := HA.out
   clear HA
   simp only [spec_Run.j0] at H
   by_cases c23 : x21_3 = true
   ·subst c23
    have H1 : (some (t288, t289, t290, t291, y294)) = some (r1, r2, r3, r4, r5) := by rw [if_pos rfl] at H; first | done | exact H
    clear H
    have H := H1
    clear H1
    simp only [Option.some.injEq, Prod.mk.injEq] at H
    obtain ⟨rfl, rfl, rfl, rfl, rfl⟩ := H
    have hnb24 := NB286_287.out
    have hnc24 := NB287_286.out
    have hcz25_0 : wc.cell? ⟨gb286, 0, none⟩ = some (.int .i64 t288) := (uF BK286.out 0).trans rfl
    have hcz25_1 : wc.cell? ⟨gb286, 1, none⟩ = some (.int .i64 t289) := (uF BK286.out 1).trans rfl
    have hcz25_2 : wc.cell? ⟨gb286, 2, none⟩ = some (.bool t290) := (uF BK286.out 2).trans rfl
    have hcz25_3 : wc.cell? ⟨gb286, 3, none⟩ = some (.slice Ao11 t291.length co11) := (uF BK286.out 3).trans rfl
    have hfz25_0 := uI BK286.out 0
    have hfz25_1 := uI BK286.out 1
    have hfz25_2 := uI BK286.out 2
    have hfz25_3 := uI BK286.out 3
    have hcz26_0 : wc.cell? ⟨gb287, 0, none⟩ = some (.int .i64 0) := (uF BK287.out 0).trans rfl
    have hcz26_1 : wc.cell? ⟨gb287, 1, none⟩ = some (.int .i64 0) := (uF BK287.out 1).trans rfl
    have hcz26_2 : wc.cell? ⟨gb287, 2, none⟩ = some (.bool false) := (uF BK287.out 2).trans rfl
    have hcz26_3 : wc.cell? ⟨gb287, 3, none⟩ = some (.slice none 0 0) := (uF BK287.out 3).trans rfl
    have hfz26_0 := uI BK287.out 0
    have hfz26_1 := uI BK287.out 1
    have hfz26_2 := uI BK287.out 2
    have hfz26_3 := uI BK287.out 3
    go_wp2
    refine bodyPost_ret (uR rfl _ _ gb287 63 #[.int .i64 t288, .int .i64 t289, .bool t290, .slice Ao11 t291.length co11] (0, 0) _ rfl (by (with_reducible repeat (first | refine uH ?_ _ | refine uJ ?_ | refine uG ?_ _)); refine uP (cs := #[.int .i64 t288, .int .i64 t289, .bool t290, .slice none 0 0]) ?_ 3 _ rfl; (with_reducible repeat (first | refine uH ?_ _ | refine uJ ?_ | refine uG ?_ _)); refine uP (cs := #[.int .i64 t288, .int .i64 t289, .bool false, .slice none 0 0]) ?_ 2 _ rfl; (with_reducible repeat (first | refine uH ?_ _ | refine uJ ?_ | refine uG ?_ _)); refine uP (cs := #[.int .i64 t288, .int .i64 0, .bool false, .slice none 0 0]) ?_ 1 _ rfl; (with_reducible repeat (first | refine uH ?_ _ | refine uJ ?_ | refine uG ?_ _)); refine uP (cs := #[.int .i64 0, .int .i64 0, .bool false, .slice none 0 0]) ?_ 0 _ rfl; (with_reducible repeat (first | refine uH ?_ _ | refine uJ ?_ | refine uG ?_ _)); exact BK287.out) Try.underlying63 rfl (by kernel_rfl)) rfl ?_
    exact ⟨_, _, by first | rfl | (simp [errW_none, errW_some] <;> rfl) | (simp [*, errW_none, errW_some] <;> rfl), by (with_reducible repeat (first | apply uU | apply uS | apply uT)); exact uX (uV (p := ⟨gb287, 3, none⟩) (uV (p := ⟨gb287, 2, none⟩) (uV (p := ⟨gb287, 1, none⟩) (uV (p := ⟨gb287, 0, none⟩) (uW HO_287003.out BK287.out (by decide)) (fun _ hk => hk.2) (.int .i64 t288)) (fun _ hk => hk.2) (.int .i64 t289)) (fun _ hk => hk.2) (.bool t290)) (fun _ hk => hk.2) (.slice Ao11 t291.length co11)) (fun _ hk => trivial), by (with_reducible repeat (first | apply uU | apply uS | apply uT)); exact uX (uV (p := ⟨gb287, 3, none⟩) (uV (p := ⟨gb287, 2, none⟩) (uV (p := ⟨gb287, 1, none⟩) (uV (p := ⟨gb287, 0, none⟩) (uW HO_6.out BK287.out (by decide)) (fun _ hk => hk.2) (.int .i64 t288)) (fun _ hk => hk.2) (.int .i64 t289)) (fun _ hk => hk.2) (.bool t290)) (fun _ hk => hk.2) (.slice Ao11 t291.length co11)) (fun _ hk => trivial), by repeat (first | (with_reducible first | exact HB.out | apply uL | apply uE | apply uK | refine uM ?_ GE286.out | refine uM ?_ GE287.out) | exact HB.out)⟩
   ·replace c23 := Bool.eq_false_iff.mpr c23
    subst c23
    have H1 : (spec_Run.l0 kj3 a1 y294 0 t288 t289 t290 t291) = some (r1, r2, r3, r4, r5) := by rw [if_neg (show ¬ (false = true) by decide)] at H; first | done | exact H
    clear H
    have H := H1
    clear H1
    have H' := uD H
    clear H
    go_wp2
    go_loopg [6, 7] kj3 (fun kq v6 v7 w' => ∃ (x6_2 : List (S116)) (x7_2 : Int) (x287000_2 : Int) (x287001_2 : Int) (x287002_2 : Bool) (x287003_2 : List (S74)) (u287003 : Value), v7 = .int .i64 x7_2 ∧ Aside0 (spec_Run.l0 kq a1 x6_2 x7_2 x287000_2 x287001_2 x287002_2 x287003_2 = some (r1, r2, r3, r4, r5)) ∧ Aside0 (kq ≤ kj3) ∧ Aside0 (Kd.R k116 116 w' w.heap.size (fun _ => True) v6 x6_2) ∧ Aside0 (Kd.R k74 74 w' w.heap.size (fun _ => True) u287003 x287003_2) ∧ Aside0 (w'.heap[gb286]? = some (.cells #[.int .i64 x287000_2, .int .i64 x287001_2, .bool x287002_2, u287003] 63 (0, 0))) ∧ Aside0 (w'.heap[gb287]? = some (.cells #[.int .i64 0, .int .i64 0, .bool false, (.slice none 0 0)] 63 (0, 0))) ∧ Aside0 (Below w.heap.size w w'))
    case atStart => exact ⟨(y294), (0), (t288), (t289), (t290), (t291), (.slice Ao11 t291.length co11), (by first | rfl | (simp; done) | (simp [*]; done)), H', ⟨Nat.le_refl _⟩, ⟨by (with_reducible repeat (first | apply uU | apply uS | apply uT)); exact HO_6.out⟩, ⟨by (with_reducible repeat (first | apply uU | apply uS | apply uT)); exact HO_287003.out⟩, ⟨by (with_reducible repeat (first | refine uH ?_ _ | refine uJ ?_ | refine uG ?_ _)); exact BK286.out⟩, ⟨by (with_reducible repeat (first | refine uH ?_ _ | refine uJ ?_ | refine uG ?_ _)); exact BK287.out⟩, ⟨by repeat (first | (with_reducible first | exact HB.out | apply uL | apply uE | apply uK | refine uM ?_ GE286.out | refine uM ?_ GE287.out) | exact HB.out)⟩⟩
    case round =>
     clear H'
     try clear c1
     try clear c2
     try clear p2
     try clear c4
     try clear c7
     try clear c8
     try clear c15
     try clear c17
     try clear c20
     try clear c23
     try clear c24
     try clear hcz10_0
     try clear hcz10_1
     try clear hcz10_2
     try clear hcz10_3
     try clear hcz18_0
     try clear hcz18_1
     try clear hcz18_2
     try clear hcz18_3
     try clear hcz21_0
     try clear hcz21_1
     try clear hcz21_2
     try clear hcz21_3
     try clear hcz25_0
     try clear hcz25_1
     try clear hcz25_2
     try clear hcz25_3
     try clear hcz26_0
     try clear hcz26_1
     try clear hcz26_2
     try clear hcz26_3
     try clear hcz8_0
     try clear hcz8_1
     try clear hcz8_2
     try clear hcz8_3
     try clear hfz10_0
     try clear hfz10_1
     try clear hfz10_2
     try clear hfz10_3
     try clear hfz18_0
     try clear hfz18_1
     try clear hfz18_2
     try clear hfz18_3
     try clear hfz21_0
     try clear hfz21_1
     try clear hfz21_2
     try clear hfz21_3
     try clear hfz25_0
     try clear hfz25_1
     try clear hfz25_2
     try clear hfz25_3
     try clear hfz26_0
     try clear hfz26_1
     try clear hfz26_2
     try clear hfz26_3
     try clear hfz8_0
     try clear hfz8_1
     try clear hfz8_2
     try clear hfz8_3
     try clear p2
     obtain ⟨x6_2, x7_2, x287000_2, x287001_2, x287002_2, x287003_2, u287003, rfl, HA, HK2, HO_6, HO_287003, BK286, BK287, HB⟩ := hrel
     cases gk with
     | zero => exact absurd HA.out (by simp [spec_Run.l0])
     | succ k2 =>
      have H := HA.out
      clear HA
      simp only [spec_Run.l0] at H
      by_cases c27 : x7_2 < a1
      ·rw [if_pos c27] at H
       have c27b0 : decide (x7_2 < a1) = true := decide_eq_true c27
       clear c27
       replace H := Option.bind_eq_some_iff.mp H
       obtain ⟨⟨t299, t300, t301, t302, t305, t306⟩, A280, H⟩ := H
       replace H : (if t306 = true then (if x6_2.length < 8796093022208 then ((spec_l02Step.f k2 t299 t300 t301 t302).bind fun bt311 => (spec_Run.l0 k2 a1 (x6_2 ++ [(⟨t305, x7_2⟩ : S116)]) (wrap64 (x7_2 + 1)) bt311.1 bt311.2.1 bt311.2.2.1 bt311.2.2.2)) else (none)) else ((spec_l02Step.f k2 t299 t300 t301 t302).bind fun bt317 => (spec_Run.l0 k2 a1 x6_2 (wrap64 (x7_2 + 1)) bt317.1 bt317.2.1 bt317.2.2.1 bt317.2.2.2))) = some (r1, r2, r3, r4, r5) := H
       have A28 := uD A280
       clear A280
       by_cases c29 : t306 = true
       ·subst c29
        have H1 : (if x6_2.length < 8796093022208 then ((spec_l02Step.f k2 t299 t300 t301 t302).bind fun bt311 => (spec_Run.l0 k2 a1 (x6_2 ++ [(⟨t305, x7_2⟩ : S116)]) (wrap64 (x7_2 + 1)) bt311.1 bt311.2.1 bt311.2.2.1 bt311.2.2.2)) else (none)) = some (r1, r2, r3, r4, r5) := by rw [if_pos rfl] at H; first | done | exact H
        clear H
        have H := H1
        clear H1
        by_cases c30 : x6_2.length < 8796093022208
        ·rw [if_pos c30] at H
         have LMc30 := uD c30
         clear c30
         obtain ⟨y308, hy308⟩ : ∃ y_ : List (S116), y_ = (x6_2 ++ [(⟨t305, x7_2⟩ : S116)]) := ⟨_, rfl⟩
         replace H : ((spec_l02Step.f k2 t299 t300 t301 t302).bind fun bt311 => (spec_Run.l0 k2 a1 y308 (wrap64 (x7_2 + 1)) bt311.1 bt311.2.1 bt311.2.2.1 bt311.2.2.2)) = some (r1, r2, r3, r4, r5) := by first | (rw [hy308]; with_reducible exact H) | (have H2_ := (Option.bind_some _ _).symm.trans H; rw [hy308]; with_reducible exact H2_) | (have H2_ := (Option.bind_some _ _).symm.trans H; with_reducible exact H2_) | with_reducible exact H | (rw [hy308]; exact H) | exact H
         have Ny308 := uD hy308
         clear hy308
         replace H := Option.bind_eq_some_iff.mp H
         obtain ⟨⟨t311, t312, t313, t314⟩, A310, H⟩ := H
         replace H : (spec_Run.l0 k2 a1 y308 (wrap64 (x7_2 + 1)) t311 t312 t313 t314) = some (r1, r2, r3, r4, r5) := H
         have A31 := uD A310
         clear A310
         have H' := uD H
         clear H
         have hnb32 := NB286_287.out
         have hnc32 := NB287_286.out
         have hcz33_0 : wr.cell? ⟨gb286, 0, none⟩ = some (.int .i64 x287000_2) := (uF BK286.out 0).trans rfl
         have hcz33_1 : wr.cell? ⟨gb286, 1, none⟩ = some (.int .i64 x287001_2) := (uF BK286.out 1).trans rfl
         have hcz33_2 : wr.cell? ⟨gb286, 2, none⟩ = some (.bool x287002_2) := (uF BK286.out 2).trans rfl
         have hcz33_3 : wr.cell? ⟨gb286, 3, none⟩ = some (u287003) := (uF BK286.out 3).trans rfl
         have hfz33_0 := uI BK286.out 0
         have hfz33_1 := uI BK286.out 1
         have hfz33_2 := uI BK286.out 2
         have hfz33_3 := uI BK286.out 3
         obtain ⟨Ao34, co34, eo34⟩ := Kd.R_slice HO_287003.out
         subst eo34
         go_wp2_with (first | ((with_reducible refine gate_callee (f := 85) rfl ?_); refine goesL_ (some 31) rfl rfl Try.func85 (by kernel_rfl) rfl #[.agg #[.int .i64 x287000_2, .int .i64 x287001_2, .bool x287002_2, .slice Ao34 x287003_2.length co34]] rfl (by (try simp only [List.map_toArray, List.map_cons, List.map_nil]); first | done | rfl | (simp only [List.length_drop, List.length_take]; rfl)) ?_; (with_reducible refine (spec_Leave.calls k2 x287000_2 x287001_2 x287002_2 _ _ x287003_2 t299 t300 t301 t302 t305 true _ ?side1 ?side2 A28.out).mono ?_); (case side1 => repeat (first | exact (Kd.R_reads' HO_287003.out).2.2 | (with_reducible refine Kd.C_alloc ?_ _) | (with_reducible refine Kd.C_drewN ?_ _) | (with_reducible refine Kd.C_drew ?_))); (case side2 => exact (Kd.R_reads' HO_287003.out).2.1); rintro e w35 ⟨v303, rfl, ho0, hb⟩; refine ⟨_, rfl, ?_⟩; have n0_ := uD (Kd.R_below (by (with_reducible repeat (first | apply uU | apply uS | apply uT)); exact HO_6.out) hb); have n1_ := uD (Kd.R_elder' (by (with_reducible repeat (first | apply uU | apply uS | apply uT)); exact HO_287003.out) (Kd.R_base ho0) hb); have n2_ := uD (Kd.R_lower (Kd.R_new' ho0 (Kd.R_lt (by (with_reducible repeat (first | apply uU | apply uS | apply uT)); exact HO_287003.out))) (uN (by repeat (first | (with_reducible first | exact HB.out | apply uL | apply uE | apply uK | refine uM ?_ GE286.out | refine uM ?_ GE287.out) | exact HB.out)))); have n3_ := uD (blk_below (g := gb286) (o := .cells #[.int .i64 x287000_2, .int .i64 x287001_2, .bool x287002_2, .slice Ao34 x287003_2.length co34] 63 (0, 0)) (by (with_reducible repeat (first | refine uH ?_ _ | refine uJ ?_ | refine uG ?_ _)); exact BK286.out) hb); have n4_ := uD (blk_below (g := gb287) (o := .cells #[.int .i64 0, .int .i64 0, .bool false, .slice none 0 0] 63 (0, 0)) (by (with_reducible repeat (first | refine uH ?_ _ | refine uJ ?_ | refine uG ?_ _)); exact BK287.out) hb); have n5_ := uD (uO (by repeat (first | (with_reducible first | exact HB.out | apply uL | apply uE | apply uK | refine uM ?_ GE286.out | refine uM ?_ GE287.out) | exact HB.out)) hb); clear HO_6; clear HO_287003; clear BK286; clear BK287; clear HB; have HO_6 := n0_; have HO_287003 := n1_; have HO304 := n2_; have BK286 := n3_; have BK287 := n4_; have HB := n5_; clear n0_ n1_ n2_ n3_ n4_ n5_; (try clear hb); (try clear hb2); (try clear hk); (try clear hi); (try clear ho0)) | ((with_reducible refine gate_dst (N := 8) rfl ?_); refine box_event ?hg (N := 8) ?hd (cs := #[.int .i64 0, .int .i64 0, .bool false, .slice none 0 0]) (t := 63) ?hr ?_; (case hd => rfl); (case hg => rfl); (case hr => first | (go_simp; done) | (go_simp; rfl)); intro gb307 hg w36 hbox hb; have n0_ := uD (Kd.R_below (by (with_reducible repeat (first | apply uU | apply uS | apply uT)); exact HO_6.out) hb); have n1_ := uD (Kd.R_below (by (with_reducible repeat (first | apply uU | apply uS | apply uT)); exact HO_287003.out) hb); have n2_ := uD (Kd.R_below (by (with_reducible repeat (first | apply uU | apply uS | apply uT)); exact HO304.out) hb); have n3_ := uD (blk_below (g := gb286) (o := .cells #[.int .i64 x287000_2, .int .i64 x287001_2, .bool x287002_2, .slice Ao34 x287003_2.length co34] 63 (0, 0)) (by (with_reducible repeat (first | refine uH ?_ _ | refine uJ ?_ | refine uG ?_ _)); exact BK286.out) hb); have n4_ := uD (blk_below (g := gb287) (o := .cells #[.int .i64 0, .int .i64 0, .bool false, .slice none 0 0] 63 (0, 0)) (by (with_reducible repeat (first | refine uH ?_ _ | refine uJ ?_ | refine uG ?_ _)); exact BK287.out) hb); have n5_ := uD (uO (by repeat (first | (with_reducible first | exact HB.out | apply uL | apply uE | apply uK | refine uM ?_ GE286.out | refine uM ?_ GE287.out) | exact HB.out)) hb); have n6_ := uD (hbox); have n7_ := uD ((by rw [hg]; exact (uN (by repeat (first | (with_reducible first | exact HB.out | apply uL | apply uE | apply uK | refine uM ?_ GE286.out | refine uM ?_ GE287.out) | exact HB.out))) : w.heap.size ≤ gb307)); have n8_ := uD ((by rw [hg]; exact (uN (by repeat (first | (with_reducible first | exact HB.out | apply uL | apply uE | apply uK | refine uM ?_ GE286.out | refine uM ?_ GE287.out) | exact HB.out))) : w.heap.size ≤ gb307)); have n9_ := uD ((by rw [hg]; exact Nat.ne_of_lt (blk_lt (g := gb286) (o := .cells #[.int .i64 x287000_2, .int .i64 x287001_2, .bool x287002_2, .slice Ao34 x287003_2.length co34] 63 (0, 0)) (by (with_reducible repeat (first | refine uH ?_ _ | refine uJ ?_ | refine uG ?_ _)); exact BK286.out)) : gb286 ≠ gb307)); have n10_ := uD ((by rw [hg]; exact Nat.ne_of_gt (blk_lt (g := gb286) (o := .cells #[.int .i64 x287000_2, .int .i64 x287001_2, .bool x287002_2, .slice Ao34 x287003_2.length co34] 63 (0, 0)) (by (with_reducible repeat (first | refine uH ?_ _ | refine uJ ?_ | refine uG ?_ _)); exact BK286.out)) : gb307 ≠ gb286)); have n11_ := uD ((by rw [hg]; exact Nat.ne_of_lt (blk_lt (g := gb287) (o := .cells #[.int .i64 0, .int .i64 0, .bool false, .slice none 0 0] 63 (0, 0)) (by (with_reducible repeat (first | refine uH ?_ _ | refine uJ ?_ | refine uG ?_ _)); exact BK287.out)) : gb287 ≠ gb307)); have n12_ := uD ((by rw [hg]; exact Nat.ne_of_gt (blk_lt (g := gb287) (o := .cells #[.int .i64 0, .int .i64 0, .bool false, .slice none 0 0] 63 (0, 0)) (by (with_reducible repeat (first | refine uH ?_ _ | refine uJ ?_ | refine uG ?_ _)); exact BK287.out)) : gb307 ≠ gb287)); clear HO_6; clear HO_287003; clear HO304; clear BK286; clear BK287; clear HB; have HO_6 := n0_; have HO_287003 := n1_; have HO304 := n2_; have BK286 := n3_; have BK287 := n4_; have HB := n5_; have BK307 := n6_; have GW307 := n7_; have GE307 := n8_; have NB286_307 := n9_; have NB307_286 := n10_; have NB287_307 := n11_; have NB307_287 := n12_; clear n0_ n1_ n2_ n3_ n4_ n5_ n6_ n7_ n8_ n9_ n10_ n11_ n12_; clear hb hbox hg; have hnb37 := NB307_286.out; have hnc37 := NB286_307.out; have hnb38 := NB307_287.out; have hnc38 := NB287_307.out; have hcz39_0 : w36.cell? ⟨gb307, 0, none⟩ = some (.int .i64 0) := (uF BK307.out 0).trans rfl; have hcz39_1 : w36.cell? ⟨gb307, 1, none⟩ = some (.int .i64 0) := (uF BK307.out 1).trans rfl; have hcz39_2 : w36.cell? ⟨gb307, 2, none⟩ = some (.bool false) := (uF BK307.out 2).trans rfl; have hcz39_3 : w36.cell? ⟨gb307, 3, none⟩ = some (.slice none 0 0) := (uF BK307.out 3).trans rfl; have hfz39_0 := uI BK307.out 0; have hfz39_1 := uI BK307.out 1; have hfz39_2 := uI BK307.out 2; have hfz39_3 := uI BK307.out 3; obtain ⟨Ao40, co40, eo40⟩ := Kd.R_slice HO304.out; subst eo40) | ((with_reducible refine gate_builtin (b := .append) (xs := #[.tmp 36, .tmp 40]) rfl ?_); at_builtin; refine Kd.R_append k116 (w0 := w) w.heap.size rfl (.tmp 36) (.tmp 40) 70 116 (.agg #[(.int .i64 0), (.int .i64 0)]) 16 rfl Try.underlying70 info116 rfl (by decide) (by omega) u6 x6_2 (⟨t305, x7_2⟩ : S116) [.int .i64 t305, .int .i64 x7_2] (fun _ => True) (fun _ => False) rfl (by first | (go_simp; done) | (go_simp; rfl)) ?aP (fun _ hk => hk.elim) ?aF ?aO ?aB ?aS ?aL ?_; (case aP => exact k116_mkM _ _ _ (⟨t305, x7_2⟩ : S116)); (case aB => exact (by repeat (first | (with_reducible first | exact HB.out | apply uL | apply uE | apply uK | refine uM ?_ GE286.out | refine uM ?_ GE287.out | refine uM ?_ GE307.out) | exact HB.out))); (case aF => exact (fun _ _ => trivial)); (case aO => exact (by (with_reducible repeat (first | apply uU | apply uS | apply uT)); exact uX (uV (p := ⟨gb307, 3, none⟩) (uV (p := ⟨gb307, 2, none⟩) (uV (p := ⟨gb307, 1, none⟩) (uV (p := ⟨gb307, 0, none⟩) (uW HO_6.out BK307.out (by decide)) (fun _ hk => hk.2) (.int .i64 t299)) (fun _ hk => hk.2) (.int .i64 t300)) (fun _ hk => hk.2) (.bool t301)) (fun _ hk => hk.2) (.slice Ao40 t302.length co40)) (fun _ hk => trivial))); (case aS => exact (uN (by repeat (first | (with_reducible first | exact HB.out | apply uL | apply uE | apply uK | refine uM ?_ GE286.out | refine uM ?_ GE287.out | refine uM ?_ GE307.out) | exact HB.out)))); (case aL => have := LMc30.out; omega); intro v309 w41 ho hb hg hat; rw [← Ny308.out] at ho; have n0_ := uD (Kd.R_over' (by (with_reducible repeat (first | apply uU | apply uS | apply uT)); exact (uX (uV (p := ⟨gb307, 3, none⟩) (uV (p := ⟨gb307, 2, none⟩) (uV (p := ⟨gb307, 1, none⟩) (uV (p := ⟨gb307, 0, none⟩) (uW HO_287003.out BK307.out (by decide)) (fun _ hk => hk.2) (.int .i64 t299)) (fun _ hk => hk.2) (.int .i64 t300)) (fun _ hk => hk.2) (.bool t301)) (fun _ hk => hk.2) (.slice Ao40 t302.length co40)) (fun _ h_ => h_.1))) (Kd.R_typed (by (with_reducible repeat (first | apply uU | apply uS | apply uT)); exact (uX (uV (p := ⟨gb307, 3, none⟩) (uV (p := ⟨gb307, 2, none⟩) (uV (p := ⟨gb307, 1, none⟩) (uV (p := ⟨gb307, 0, none⟩) (uW HO_6.out BK307.out (by decide)) (fun _ hk => hk.2) (.int .i64 t299)) (fun _ hk => hk.2) (.int .i64 t300)) (fun _ hk => hk.2) (.bool t301)) (fun _ hk => hk.2) (.slice Ao40 t302.length co40)) (fun _ h_ => h_.1)))) (by decide) hg); have n1_ := uD (blk_grown (g := gb286) (o := .cells #[.int .i64 x287000_2, .int .i64 x287001_2, .bool x287002_2, .slice Ao34 x287003_2.length co34] 63 (0, 0)) (by (with_reducible repeat (first | refine uH ?_ _ | refine uJ ?_ | refine uG ?_ _)); refine uQ ?_ NB286_307.out _; (with_reducible repeat (first | refine uH ?_ _ | refine uJ ?_ | refine uG ?_ _)); refine uQ ?_ NB286_307.out _; (with_reducible repeat (first | refine uH ?_ _ | refine uJ ?_ | refine uG ?_ _)); refine uQ ?_ NB286_307.out _; (with_reducible repeat (first | refine uH ?_ _ | refine uJ ?_ | refine uG ?_ _)); refine uQ ?_ NB286_307.out _; (with_reducible repeat (first | refine uH ?_ _ | refine uJ ?_ | refine uG ?_ _)); exact BK286.out) hg (Kd.R_ne HO_6.out BK286.out (by decide))); have n2_ := uD (blk_grown (g := gb287) (o := .cells #[.int .i64 0, .int .i64 0, .bool false, .slice none 0 0] 63 (0, 0)) (by (with_reducible repeat (first | refine uH ?_ _ | refine uJ ?_ | refine uG ?_ _)); refine uQ ?_ NB287_307.out _; (with_reducible repeat (first | refine uH ?_ _ | refine uJ ?_ | refine uG ?_ _)); refine uQ ?_ NB287_307.out _; (with_reducible repeat (first | refine uH ?_ _ | refine uJ ?_ | refine uG ?_ _)); refine uQ ?_ NB287_307.out _; (with_reducible repeat (first | refine uH ?_ _ | refine uJ ?_ | refine uG ?_ _)); refine uQ ?_ NB287_307.out _; (with_reducible repeat (first | refine uH ?_ _ | refine uJ ?_ | refine uG ?_ _)); exact BK287.out) hg (Kd.R_ne HO_6.out BK287.out (by decide))); have n3_ := uD (Kd.R_over' (by (with_reducible repeat (first | apply uU | apply uS | apply uT)); exact (uX (uV (p := ⟨gb307, 3, none⟩) (uV (p := ⟨gb307, 2, none⟩) (uV (p := ⟨gb307, 1, none⟩) (uV (p := ⟨gb307, 0, none⟩) (uW HO304.out BK307.out (by decide)) (fun _ hk => hk.2) (.int .i64 t299)) (fun _ hk => hk.2) (.int .i64 t300)) (fun _ hk => hk.2) (.bool t301)) (fun _ hk => hk.2) (.slice Ao40 t302.length co40)) (fun _ h_ => h_.1))) (Kd.R_typed (by (with_reducible repeat (first | apply uU | apply uS | apply uT)); exact (uX (uV (p := ⟨gb307, 3, none⟩) (uV (p := ⟨gb307, 2, none⟩) (uV (p := ⟨gb307, 1, none⟩) (uV (p := ⟨gb307, 0, none⟩) (uW HO_6.out BK307.out (by decide)) (fun _ hk => hk.2) (.int .i64 t299)) (fun _ hk => hk.2) (.int .i64 t300)) (fun _ hk => hk.2) (.bool t301)) (fun _ hk => hk.2) (.slice Ao40 t302.length co40)) (fun _ h_ => h_.1)))) (by decide) hg); have n4_ := uD (blk_grown (g := gb307) (o := .cells #[.int .i64 t299, .int .i64 t300, .bool t301, .slice Ao40 t302.length co40] 63 (0, 0)) (by (with_reducible repeat (first | refine uH ?_ _ | refine uJ ?_ | refine uG ?_ _)); refine uP (cs := #[.int .i64 t299, .int .i64 t300, .bool t301, .slice none 0 0]) ?_ 3 _ rfl; (with_reducible repeat (first | refine uH ?_ _ | refine uJ ?_ | refine uG ?_ _)); refine uP (cs := #[.int .i64 t299, .int .i64 t300, .bool false, .slice none 0 0]) ?_ 2 _ rfl; (with_reducible repeat (first | refine uH ?_ _ | refine uJ ?_ | refine uG ?_ _)); refine uP (cs := #[.int .i64 t299, .int .i64 0, .bool false, .slice none 0 0]) ?_ 1 _ rfl; (with_reducible repeat (first | refine uH ?_ _ | refine uJ ?_ | refine uG ?_ _)); refine uP (cs := #[.int .i64 0, .int .i64 0, .bool false, .slice none 0 0]) ?_ 0 _ rfl; (with_reducible repeat (first | refine uH ?_ _ | refine uJ ?_ | refine uG ?_ _)); exact BK307.out) hg (Kd.R_ne HO_6.out BK307.out (by decide))); have n5_ := uD (hb); have n6_ := uD (ho); clear HO_287003; clear BK286; clear BK287; clear HO304; clear BK307; clear HB; clear HO_6; have HO_287003 := n0_; have BK286 := n1_; have BK287 := n2_; have HO304 := n3_; have BK307 := n4_; have HB := n5_; have HO310 := n6_; clear n0_ n1_ n2_ n3_ n4_ n5_ n6_; clear ho hb hg hat; have hcz42_0 : w41.cell? ⟨gb307, 0, none⟩ = some (.int .i64 t299) := (uF BK307.out 0).trans rfl; have hcz42_1 : w41.cell? ⟨gb307, 1, none⟩ = some (.int .i64 t300) := (uF BK307.out 1).trans rfl; have hcz42_2 : w41.cell? ⟨gb307, 2, none⟩ = some (.bool t301) := (uF BK307.out 2).trans rfl; have hcz42_3 : w41.cell? ⟨gb307, 3, none⟩ = some (.slice Ao40 t302.length co40) := (uF BK307.out 3).trans rfl; have hfz42_0 := uI BK307.out 0; have hfz42_1 := uI BK307.out 1; have hfz42_2 := uI BK307.out 2; have hfz42_3 := uI BK307.out 3) | ((with_reducible refine gate_callee (f := 86) rfl ?_); refine goesL_ (some 43) rfl rfl Try.func86 (by kernel_rfl) rfl #[.agg #[.int .i64 t299, .int .i64 t300, .bool t301, .slice Ao40 t302.length co40]] rfl (by (try simp only [List.map_toArray, List.map_cons, List.map_nil]); first | done | rfl | (simp only [List.length_drop, List.length_take]; rfl)) ?_; (with_reducible refine (spec_l02Step.calls k2 t299 t300 t301 _ _ t302 t311 t312 t313 t314 _ ?side1 ?side2 A31.out).mono ?_); (case side1 => repeat (first | exact (Kd.R_reads' HO304.out).2.2 | (with_reducible refine Kd.C_alloc ?_ _) | (with_reducible refine Kd.C_drewN ?_ _) | (with_reducible refine Kd.C_drew ?_))); (case side2 => exact (Kd.R_reads' HO304.out).2.1); rintro e w43 ⟨v315, rfl, ho0, hb⟩; refine ⟨_, rfl, ?_⟩; have n0_ := uD (Kd.R_elder' (by (with_reducible repeat (first | apply uU | apply uS | apply uT)); exact HO_287003.out) (Kd.R_base ho0) hb); have n1_ := uD (Kd.R_elder' (by (with_reducible repeat (first | apply uU | apply uS | apply uT)); exact HO304.out) (Kd.R_base ho0) hb); have n2_ := uD (Kd.R_below (by (with_reducible repeat (first | apply uU | apply uS | apply uT)); exact HO310.out) hb); have n3_ := uD (Kd.R_lower (Kd.R_new' (Kd.R_new' ho0 (Kd.R_lt (by (with_reducible repeat (first | apply uU | apply uS | apply uT)); exact HO_287003.out))) (Kd.R_lt (by (with_reducible repeat (first | apply uU | apply uS | apply uT)); exact HO304.out))) (uN (by repeat (first | (with_reducible first | exact HB.out | apply uL | apply uE | apply uK | refine uM ?_ GE286.out | refine uM ?_ GE287.out | refine uM ?_ GE307.out) | exact HB.out)))); have n4_ := uD (blk_below (g := gb286) (o := .cells #[.int .i64 x287000_2, .int .i64 x287001_2, .bool x287002_2, .slice Ao34 x287003_2.length co34] 63 (0, 0)) (by (with_reducible repeat (first | refine uH ?_ _ | refine uJ ?_ | refine uG ?_ _)); exact BK286.out) hb); have n5_ := uD (blk_below (g := gb287) (o := .cells #[.int .i64 0, .int .i64 0, .bool false, .slice none 0 0] 63 (0, 0)) (by (with_reducible repeat (first | refine uH ?_ _ | refine uJ ?_ | refine uG ?_ _)); exact BK287.out) hb); have n6_ := uD (blk_below (g := gb307) (o := .cells #[.int .i64 t299, .int .i64 t300, .bool t301, .slice Ao40 t302.length co40] 63 (0, 0)) (by (with_reducible repeat (first | refine uH ?_ _ | refine uJ ?_ | refine uG ?_ _)); exact BK307.out) hb); have n7_ := uD (uO (by repeat (first | (with_reducible first | exact HB.out | apply uL | apply uE | apply uK | refine uM ?_ GE286.out | refine uM ?_ GE287.out | refine uM ?_ GE307.out) | exact HB.out)) hb); clear HO_287003; clear HO304; clear HO310; clear BK286; clear BK287; clear BK307; clear HB; have HO_287003 := n0_; have HO304 := n1_; have HO310 := n2_; have HO316 := n3_; have BK286 := n4_; have BK287 := n5_; have BK307 := n6_; have HB := n7_; clear n0_ n1_ n2_ n3_ n4_ n5_ n6_ n7_; (try clear hb); (try clear hb2); (try clear hk); (try clear hi); (try clear ho0); have hcz44_0 : w43.cell? ⟨gb286, 0, none⟩ = some (.int .i64 x287000_2) := (uF BK286.out 0).trans rfl; have hcz44_1 : w43.cell? ⟨gb286, 1, none⟩ = some (.int .i64 x287001_2) := (uF BK286.out 1).trans rfl; have hcz44_2 : w43.cell? ⟨gb286, 2, none⟩ = some (.bool x287002_2) := (uF BK286.out 2).trans rfl; have hcz44_3 : w43.cell? ⟨gb286, 3, none⟩ = some (.slice Ao34 x287003_2.length co34) := (uF BK286.out 3).trans rfl; have hfz44_0 := uI BK286.out 0; have hfz44_1 := uI BK286.out 1; have hfz44_2 := uI BK286.out 2; have hfz44_3 := uI BK286.out 3; obtain ⟨Ao45, co45, eo45⟩ := Kd.R_slice HO316.out; subst eo45))
         go_roundg k2
         case measure => have := HJ3.out; have := HK2.out; omega
         case rel => exact ⟨(y308), (wrap64 (x7_2 + 1)), (t311), (t312), (t313), (t314), (.slice Ao45 t314.length co45), (by first | rfl | (simp; done) | (simp [*]; done)), H', ⟨by have := HJ3.out; have := HK2.out; omega⟩, ⟨by (with_reducible repeat (first | apply uU | apply uS | apply uT)); exact uX (uV (p := ⟨gb286, 3, none⟩) (uV (p := ⟨gb286, 2, none⟩) (uV (p := ⟨gb286, 1, none⟩) (uV (p := ⟨gb286, 0, none⟩) (uW HO310.out BK286.out (by decide)) (fun _ hk => hk.2) (.int .i64 t311)) (fun _ hk => hk.2) (.int .i64 t312)) (fun _ hk => hk.2) (.bool t313)) (fun _ hk => hk.2) (.slice Ao45 t314.length co45)) (fun _ hk => trivial)⟩, ⟨by (with_reducible repeat (first | apply uU | apply uS | apply uT)); exact uX (uV (p := ⟨gb286, 3, none⟩) (uV (p := ⟨gb286, 2, none⟩) (uV (p := ⟨gb286, 1, none⟩) (uV (p := ⟨gb286, 0, none⟩) (uW HO316.out BK286.out (by decide)) (fun _ hk => hk.2) (.int .i64 t311)) (fun _ hk => hk.2) (.int .i64 t312)) (fun _ hk => hk.2) (.bool t313)) (fun _ hk => hk.2) (.slice Ao45 t314.length co45)) (fun _ hk => trivial)⟩, ⟨by (with_reducible repeat (first | refine uH ?_ _ | refine uJ ?_ | refine uG ?_ _)); refine uP (cs := #[.int .i64 t311, .int .i64 t312, .bool t313, .slice Ao34 x287003_2.length co34]) ?_ 3 _ rfl; (with_reducible repeat (first | refine uH ?_ _ | refine uJ ?_ | refine uG ?_ _)); refine uP (cs := #[.int .i64 t311, .int .i64 t312, .bool x287002_2, .slice Ao34 x287003_2.length co34]) ?_ 2 _ rfl; (with_reducible repeat (first | refine uH ?_ _ | refine uJ ?_ | refine uG ?_ _)); refine uP (cs := #[.int .i64 t311, .int .i64 x287001_2, .bool x287002_2, .slice Ao34 x287003_2.length co34]) ?_ 1 _ rfl; (with_reducible repeat (first | refine uH ?_ _ | refine uJ ?_ | refine uG ?_ _)); refine uP (cs := #[.int .i64 x287000_2, .int .i64 x287001_2, .bool x287002_2, .slice Ao34 x287003_2.length co34]) ?_ 0 _ rfl; (with_reducible repeat (first | refine uH ?_ _ | refine uJ ?_ | refine uG ?_ _)); exact BK286.out⟩, ⟨by (with_reducible repeat (first | refine uH ?_ _ | refine uJ ?_ | refine uG ?_ _)); refine uQ ?_ NB287_286.out _; (with_reducible repeat (first | refine uH ?_ _ | refine uJ ?_ | refine uG ?_ _)); refine uQ ?_ NB287_286.out _; (with_reducible repeat (first | refine uH ?_ _ | refine uJ ?_ | refine uG ?_ _)); refine uQ ?_ NB287_286.out _; (with_reducible repeat (first | refine uH ?_ _ | refine uJ ?_ | refine uG ?_ _)); refine uQ ?_ NB287_286.out _; (with_reducible repeat (first | refine uH ?_ _ | refine uJ ?_ | refine uG ?_ _)); exact BK287.out⟩, ⟨by repeat (first | (with_reducible first | exact HB.out | apply uL | apply uE | apply uK | refine uM ?_ GE286.out | refine uM ?_ GE287.out | refine uM ?_ GE307.out) | exact HB.out)⟩⟩
        ·rw [if_neg c30] at H
         exact absurd H (by simp)
       ·replace c29 := Bool.eq_false_iff.mpr c29
        subst c29
        have H1 : ((spec_l02Step.f k2 t299 t300 t301 t302).bind fun bt317 => (spec_Run.l0 k2 a1 x6_2 (wrap64 (x7_2 + 1)) bt317.1 bt317.2.1 bt317.2.2.1 bt317.2.2.2)) = some (r1, r2, r3, r4, r5) := by rw [if_neg (show ¬ (false = true) by decide)] at H; first | done | exact H
        clear H
        have H := H1
        clear H1
        replace H := Option.bind_eq_some_iff.mp H
        obtain ⟨⟨t317, t318, t319, t320⟩, A460, H⟩ := H
        replace H : (spec_Run.l0 k2 a1 x6_2 (wrap64 (x7_2 + 1)) t317 t318 t319 t320) = some (r1, r2, r3, r4, r5) := H
        have A46 := uD A460
        clear A460
        have H' := uD H
        clear H
        have hnb47 := NB286_287.out
        have hnc47 := NB287_286.out
        have hcz48_0 : wr.cell? ⟨gb286, 0, none⟩ = some (.int .i64 x287000_2) := (uF BK286.out 0).trans rfl
        have hcz48_1 : wr.cell? ⟨gb286, 1, none⟩ = some (.int .i64 x287001_2) := (uF BK286.out 1).trans rfl
        have hcz48_2 : wr.cell? ⟨gb286, 2, none⟩ = some (.bool x287002_2) := (uF BK286.out 2).trans rfl
        have hcz48_3 : wr.cell? ⟨gb286, 3, none⟩ = some (u287003) := (uF BK286.out 3).trans rfl
        have hfz48_0 := uI BK286.out 0
        have hfz48_1 := uI BK286.out 1
        have hfz48_2 := uI BK286.out 2
        have hfz48_3 := uI BK286.out 3
        obtain ⟨Ao49, co49, eo49⟩ := Kd.R_slice HO_287003.out
        subst eo49
        go_wp2_with (first | ((with_reducible refine gate_callee (f := 85) rfl ?_); refine goesL_ (some 31) rfl rfl Try.func85 (by kernel_rfl) rfl #[.agg #[.int .i64 x287000_2, .int .i64 x287001_2, .bool x287002_2, .slice Ao49 x287003_2.length co49]] rfl (by (try simp only [List.map_toArray, List.map_cons, List.map_nil]); first | done | rfl | (simp only [List.length_drop, List.length_take]; rfl)) ?_; (with_reducible refine (spec_Leave.calls k2 x287000_2 x287001_2 x287002_2 _ _ x287003_2 t299 t300 t301 t302 t305 false _ ?side1 ?side2 A28.out).mono ?_); (case side1 => repeat (first | exact (Kd.R_reads' HO_287003.out).2.2 | (with_reducible refine Kd.C_alloc ?_ _) | (with_reducible refine Kd.C_drewN ?_ _) | (with_reducible refine Kd.C_drew ?_))); (case side2 => exact (Kd.R_reads' HO_287003.out).2.1); rintro e w50 ⟨v303, rfl, ho0, hb⟩; refine ⟨_, rfl, ?_⟩; have n0_ := uD (Kd.R_below (by (with_reducible repeat (first | apply uU | apply uS | apply uT)); exact HO_6.out) hb); have n1_ := uD (Kd.R_elder' (by (with_reducible repeat (first | apply uU | apply uS | apply uT)); exact HO_287003.out) (Kd.R_base ho0) hb); have n2_ := uD (Kd.R_lower (Kd.R_new' ho0 (Kd.R_lt (by (with_reducible repeat (first | apply uU | apply uS | apply uT)); exact HO_287003.out))) (uN (by repeat (first | (with_reducible first | exact HB.out | apply uL | apply uE | apply uK | refine uM ?_ GE286.out | refine uM ?_ GE287.out) | exact HB.out)))); have n3_ := uD (blk_below (g := gb286) (o := .cells #[.int .i64 x287000_2, .int .i64 x287001_2, .bool x287002_2, .slice Ao49 x287003_2.length co49] 63 (0, 0)) (by (with_reducible repeat (first | refine uH ?_ _ | refine uJ ?_ | refine uG ?_ _)); exact BK286.out) hb); have n4_ := uD (blk_below (g := gb287) (o := .cells #[.int .i64 0, .int .i64 0, .bool false, .slice none 0 0] 63 (0, 0)) (by (with_reducible repeat (first | refine uH ?_ _ | refine uJ ?_ | refine uG ?_ _)); exact BK287.out) hb); have n5_ := uD (uO (by repeat (first | (with_reducible first | exact HB.out | apply uL | apply uE | apply uK | refine uM ?_ GE286.out | refine uM ?_ GE287.out) | exact HB.out)) hb); clear HO_6; clear HO_287003; clear BK286; clear BK287; clear HB; have HO_6 := n0_; have HO_287003 := n1_; have HO304 := n2_; have BK286 := n3_; have BK287 := n4_; have HB := n5_; clear n0_ n1_ n2_ n3_ n4_ n5_; (try clear hb); (try clear hb2); (try clear hk); (try clear hi); (try clear ho0)) | ((with_reducible refine gate_dst (N := 8) rfl ?_); refine box_event ?hg (N := 8) ?hd (cs := #[.int .i64 0, .int .i64 0, .bool false, .slice none 0 0]) (t := 63) ?hr ?_; (case hd => rfl); (case hg => rfl); (case hr => first | (go_simp; done) | (go_simp; rfl)); intro gb307 hg w51 hbox hb; have n0_ := uD (Kd.R_below (by (with_reducible repeat (first | apply uU | apply uS | apply uT)); exact HO_6.out) hb); have n1_ := uD (Kd.R_below (by (with_reducible repeat (first | apply uU | apply uS | apply uT)); exact HO_287003.out) hb); have n2_ := uD (Kd.R_below (by (with_reducible repeat (first | apply uU | apply uS | apply uT)); exact HO304.out) hb); have n3_ := uD (blk_below (g := gb286) (o := .cells #[.int .i64 x287000_2, .int .i64 x287001_2, .bool x287002_2, .slice Ao49 x287003_2.length co49] 63 (0, 0)) (by (with_reducible repeat (first | refine uH ?_ _ | refine uJ ?_ | refine uG ?_ _)); exact BK286.out) hb); have n4_ := uD (blk_below (g := gb287) (o := .cells #[.int .i64 0, .int .i64 0, .bool false, .slice none 0 0] 63 (0, 0)) (by (with_reducible repeat (first | refine uH ?_ _ | refine uJ ?_ | refine uG ?_ _)); exact BK287.out) hb); have n5_ := uD (uO (by repeat (first | (with_reducible first | exact HB.out | apply uL | apply uE | apply uK | refine uM ?_ GE286.out | refine uM ?_ GE287.out) | exact HB.out)) hb); have n6_ := uD (hbox); have n7_ := uD ((by rw [hg]; exact (uN (by repeat (first | (with_reducible first | exact HB.out | apply uL | apply uE | apply uK | refine uM ?_ GE286.out | refine uM ?_ GE287.out) | exact HB.out))) : w.heap.size ≤ gb307)); have n8_ := uD ((by rw [hg]; exact (uN (by repeat (first | (with_reducible first | exact HB.out | apply uL | apply uE | apply uK | refine uM ?_ GE286.out | refine uM ?_ GE287.out) | exact HB.out))) : w.heap.size ≤ gb307)); have n9_ := uD ((by rw [hg]; exact Nat.ne_of_lt (blk_lt (g := gb286) (o := .cells #[.int .i64 x287000_2, .int .i64 x287001_2, .bool x287002_2, .slice Ao49 x287003_2.length co49] 63 (0, 0)) (by (with_reducible repeat (first | refine uH ?_ _ | refine uJ ?_ | refine uG ?_ _)); exact BK286.out)) : gb286 ≠ gb307)); have n10_ := uD ((by rw [hg]; exact Nat.ne_of_gt (blk_lt (g := gb286) (o := .cells #[.int .i64 x287000_2, .int .i64 x287001_2, .bool x287002_2, .slice Ao49 x287003_2.length co49] 63 (0, 0)) (by (with_reducible repeat (first | refine uH ?_ _ | refine uJ ?_ | refine uG ?_ _)); exact BK286.out)) : gb307 ≠ gb286)); have n11_ := uD ((by rw [hg]; exact Nat.ne_of_lt (blk_lt (g := gb287) (o := .cells #[.int .i64 0, .int .i64 0, .bool false, .slice none 0 0] 63 (0, 0)) (by (with_reducible repeat (first | refine uH ?_ _ | refine uJ ?_ | refine uG ?_ _)); exact BK287.out)) : gb287 ≠ gb307)); have n12_ := uD ((by rw [hg]; exact Nat.ne_of_gt (blk_lt (g := gb287) (o := .cells #[.int .i64 0, .int .i64 0, .bool false, .slice none 0 0] 63 (0, 0)) (by (with_reducible repeat (first | refine uH ?_ _ | refine uJ ?_ | refine uG ?_ _)); exact BK287.out)) : gb307 ≠ gb287)); clear HO_6; clear HO_287003; clear HO304; clear BK286; clear BK287; clear HB; have HO_6 := n0_; have HO_287003 := n1_; have HO304 := n2_; have BK286 := n3_; have BK287 := n4_; have HB := n5_; have BK307 := n6_; have GW307 := n7_; have GE307 := n8_; have NB286_307 := n9_; have NB307_286 := n10_; have NB287_307 := n11_; have NB307_287 := n12_; clear n0_ n1_ n2_ n3_ n4_ n5_ n6_ n7_ n8_ n9_ n10_ n11_ n12_; clear hb hbox hg; have hnb52 := NB307_286.out; have hnc52 := NB286_307.out; have hnb53 := NB307_287.out; have hnc53 := NB287_307.out; have hcz54_0 : w51.cell? ⟨gb307, 0, none⟩ = some (.int .i64 0) := (uF BK307.out 0).trans rfl; have hcz54_1 : w51.cell? ⟨gb307, 1, none⟩ = some (.int .i64 0) := (uF BK307.out 1).trans rfl; have hcz54_2 : w51.cell? ⟨gb307, 2, none⟩ = some (.bool false) := (uF BK307.out 2).trans rfl; have hcz54_3 : w51.cell? ⟨gb307, 3, none⟩ = some (.slice none 0 0) := (uF BK307.out 3).trans rfl; have hfz54_0 := uI BK307.out 0; have hfz54_1 := uI BK307.out 1; have hfz54_2 := uI BK307.out 2; have hfz54_3 := uI BK307.out 3; obtain ⟨Ao55, co55, eo55⟩ := Kd.R_slice HO304.out; subst eo55) | ((with_reducible refine gate_callee (f := 86) rfl ?_); refine goesL_ (some 43) rfl rfl Try.func86 (by kernel_rfl) rfl #[.agg #[.int .i64 t299, .int .i64 t300, .bool t301, .slice Ao55 t302.length co55]] rfl (by (try simp only [List.map_toArray, List.map_cons, List.map_nil]); first | done | rfl | (simp only [List.length_drop, List.length_take]; rfl)) ?_; (with_reducible refine (spec_l02Step.calls k2 t299 t300 t301 _ _ t302 t317 t318 t319 t320 _ ?side1 ?side2 A46.out).mono ?_); (case side1 => refine (Kd.R_reads' (e := 74) (base := w.heap.size) (ok := fun k_ => (True ∧ some k_ ≠ (.slice Ao49 x287003_2.length co49 : Value).ownBlock)) (n := t302.length) (c := co55) ?_).2.2; exact (by (with_reducible repeat (first | apply uU | apply uS | apply uT)); exact (uX (uV (p := ⟨gb307, 3, none⟩) (uV (p := ⟨gb307, 2, none⟩) (uV (p := ⟨gb307, 1, none⟩) (uV (p := ⟨gb307, 0, none⟩) (uW HO304.out BK307.out (by decide)) (fun _ hk => hk.2) (.int .i64 t299)) (fun _ hk => hk.2) (.int .i64 t300)) (fun _ hk => hk.2) (.bool t301)) (fun _ hk => hk.2) (.slice Ao55 t302.length co55)) (fun _ h_ => h_.1)))); (case side2 => exact (Kd.R_reads' HO304.out).2.1); rintro e w56 ⟨v321, rfl, ho0, hb⟩; refine ⟨_, rfl, ?_⟩; have n0_ := uD (Kd.R_below (by (with_reducible repeat (first | apply uU | apply uS | apply uT)); exact (uX (uV (p := ⟨gb307, 3, none⟩) (uV (p := ⟨gb307, 2, none⟩) (uV (p := ⟨gb307, 1, none⟩) (uV (p := ⟨gb307, 0, none⟩) (uW HO_6.out BK307.out (by decide)) (fun _ hk => hk.2) (.int .i64 t299)) (fun _ hk => hk.2) (.int .i64 t300)) (fun _ hk => hk.2) (.bool t301)) (fun _ hk => hk.2) (.slice Ao55 t302.length co55)) (fun _ h_ => h_.1))) hb); have n1_ := uD (Kd.R_elder' (by (with_reducible repeat (first | apply uU | apply uS | apply uT)); exact (uX (uV (p := ⟨gb307, 3, none⟩) (uV (p := ⟨gb307, 2, none⟩) (uV (p := ⟨gb307, 1, none⟩) (uV (p := ⟨gb307, 0, none⟩) (uW HO_287003.out BK307.out (by decide)) (fun _ hk => hk.2) (.int .i64 t299)) (fun _ hk => hk.2) (.int .i64 t300)) (fun _ hk => hk.2) (.bool t301)) (fun _ hk => hk.2) (.slice Ao55 t302.length co55)) (fun _ h_ => h_.1))) (Kd.R_base ho0) hb); have n2_ := uD (Kd.R_elder' (by (with_reducible repeat (first | apply uU | apply uS | apply uT)); exact (uX (uV (p := ⟨gb307, 3, none⟩) (uV (p := ⟨gb307, 2, none⟩) (uV (p := ⟨gb307, 1, none⟩) (uV (p := ⟨gb307, 0, none⟩) (uW HO304.out BK307.out (by decide)) (fun _ hk => hk.2) (.int .i64 t299)) (fun _ hk => hk.2) (.int .i64 t300)) (fun _ hk => hk.2) (.bool t301)) (fun _ hk => hk.2) (.slice Ao55 t302.length co55)) (fun _ h_ => h_.1))) (Kd.R_base ho0) hb); have n3_ := uD (Kd.R_lower (Kd.R_new' (Kd.R_new' ho0 (Kd.R_lt (by (with_reducible repeat (first | apply uU | apply uS | apply uT)); exact (uX (uV (p := ⟨gb307, 3, none⟩) (uV (p := ⟨gb307, 2, none⟩) (uV (p := ⟨gb307, 1, none⟩) (uV (p := ⟨gb307, 0, none⟩) (uW HO_287003.out BK307.out (by decide)) (fun _ hk => hk.2) (.int .i64 t299)) (fun _ hk => hk.2) (.int .i64 t300)) (fun _ hk => hk.2) (.bool t301)) (fun _ hk => hk.2) (.slice Ao55 t302.length co55)) (fun _ h_ => h_.1))))) (Kd.R_lt (by (with_reducible repeat (first | apply uU | apply uS | apply uT)); exact (uX (uV (p := ⟨gb307, 3, none⟩) (uV (p := ⟨gb307, 2, none⟩) (uV (p := ⟨gb307, 1, none⟩) (uV (p := ⟨gb307, 0, none⟩) (uW HO304.out BK307.out (by decide)) (fun _ hk => hk.2) (.int .i64 t299)) (fun _ hk => hk.2) (.int .i64 t300)) (fun _ hk => hk.2) (.bool t301)) (fun _ hk => hk.2) (.slice Ao55 t302.length co55)) (fun _ h_ => h_.1))))) (uN (by repeat (first | (with_reducible first | exact HB.out | apply uL | apply uE | apply uK | refine uM ?_ GE286.out | refine uM ?_ GE287.out | refine uM ?_ GE307.out) | exact HB.out)))); have n4_ := uD (blk_below (g := gb286) (o := .cells #[.int .i64 x287000_2, .int .i64 x287001_2, .bool x287002_2, .slice Ao49 x287003_2.length co49] 63 (0, 0)) (by (with_reducible repeat (first | refine uH ?_ _ | refine uJ ?_ | refine uG ?_ _)); refine uQ ?_ NB286_307.out _; (with_reducible repeat (first | refine uH ?_ _ | refine uJ ?_ | refine uG ?_ _)); refine uQ ?_ NB286_307.out _; (with_reducible repeat (first | refine uH ?_ _ | refine uJ ?_ | refine uG ?_ _)); refine uQ ?_ NB286_307.out _; (with_reducible repeat (first | refine uH ?_ _ | refine uJ ?_ | refine uG ?_ _)); refine uQ ?_ NB286_307.out _; (with_reducible repeat (first | refine uH ?_ _ | refine uJ ?_ | refine uG ?_ _)); exact BK286.out) hb); have n5_ := uD (blk_below (g := gb287) (o := .cells #[.int .i64 0, .int .i64 0, .bool false, .slice none 0 0] 63 (0, 0)) (by (with_reducible repeat (first | refine uH ?_ _ | refine uJ ?_ | refine uG ?_ _)); refine uQ ?_ NB287_307.out _; (with_reducible repeat (first | refine uH ?_ _ | refine uJ ?_ | refine uG ?_ _)); refine uQ ?_ NB287_307.out _; (with_reducible repeat (first | refine uH ?_ _ | refine uJ ?_ | refine uG ?_ _)); refine uQ ?_ NB287_307.out _; (with_reducible repeat (first | refine uH ?_ _ | refine uJ ?_ | refine uG ?_ _)); refine uQ ?_ NB287_307.out _; (with_reducible repeat (first | refine uH ?_ _ | refine uJ ?_ | refine uG ?_ _)); exact BK287.out) hb); have n6_ := uD (blk_below (g := gb307) (o := .cells #[.int .i64 t299, .int .i64 t300, .bool t301, .slice Ao55 t302.length co55] 63 (0, 0)) (by (with_reducible repeat (first | refine uH ?_ _ | refine uJ ?_ | refine uG ?_ _)); refine uP (cs := #[.int .i64 t299, .int .i64 t300, .bool t301, .slice none 0 0]) ?_ 3 _ rfl; (with_reducible repeat (first | refine uH ?_ _ | refine uJ ?_ | refine uG ?_ _)); refine uP (cs := #[.int .i64 t299, .int .i64 t300, .bool false, .slice none 0 0]) ?_ 2 _ rfl; (with_reducible repeat (first | refine uH ?_ _ | refine uJ ?_ | refine uG ?_ _)); refine uP (cs := #[.int .i64 t299, .int .i64 0, .bool false, .slice none 0 0]) ?_ 1 _ rfl; (with_reducible repeat (first | refine uH ?_ _ | refine uJ ?_ | refine uG ?_ _)); refine uP (cs := #[.int .i64 0, .int .i64 0, .bool false, .slice none 0 0]) ?_ 0 _ rfl; (with_reducible repeat (first | refine uH ?_ _ | refine uJ ?_ | refine uG ?_ _)); exact BK307.out) hb); have n7_ := uD (uO (by repeat (first | (with_reducible first | exact HB.out | apply uL | apply uE | apply uK | refine uM ?_ GE286.out | refine uM ?_ GE287.out | refine uM ?_ GE307.out) | exact HB.out)) hb); clear HO_6; clear HO_287003; clear HO304; clear BK286; clear BK287; clear BK307; clear HB; have HO_6 := n0_; have HO_287003 := n1_; have HO304 := n2_; have HO322 := n3_; have BK286 := n4_; have BK287 := n5_; have BK307 := n6_; have HB := n7_; clear n0_ n1_ n2_ n3_ n4_ n5_ n6_ n7_; (try clear hb); (try clear hb2); (try clear hk); (try clear hi); (try clear ho0); have hcz57_0 : w56.cell? ⟨gb286, 0, none⟩ = some (.int .i64 x287000_2) := (uF BK286.out 0).trans rfl; have hcz57_1 : w56.cell? ⟨gb286, 1, none⟩ = some (.int .i64 x287001_2) := (uF BK286.out 1).trans rfl; have hcz57_2 : w56.cell? ⟨gb286, 2, none⟩ = some (.bool x287002_2) := (uF BK286.out 2).trans rfl; have hcz57_3 : w56.cell? ⟨gb286, 3, none⟩ = some (.slice Ao49 x287003_2.length co49) := (uF BK286.out 3).trans rfl; have hfz57_0 := uI BK286.out 0; have hfz57_1 := uI BK286.out 1; have hfz57_2 := uI BK286.out 2; have hfz57_3 := uI BK286.out 3; obtain ⟨Ao58, co58, eo58⟩ := Kd.R_slice HO322.out; subst eo58))
        go_roundg k2
        case measure => have := HJ3.out; have := HK2.out; omega
        case rel => exact ⟨(x6_2), (wrap64 (x7_2 + 1)), (t317), (t318), (t319), (t320), (.slice Ao58 t320.length co58), (by first | rfl | (simp; done) | (simp [*]; done)), H', ⟨by have := HJ3.out; have := HK2.out; omega⟩, ⟨by (with_reducible repeat (first | apply uU | apply uS | apply uT)); exact uX (uV (p := ⟨gb286, 3, none⟩) (uV (p := ⟨gb286, 2, none⟩) (uV (p := ⟨gb286, 1, none⟩) (uV (p := ⟨gb286, 0, none⟩) (uW HO_6.out BK286.out (by decide)) (fun _ hk => hk.2) (.int .i64 t317)) (fun _ hk => hk.2) (.int .i64 t318)) (fun _ hk => hk.2) (.bool t319)) (fun _ hk => hk.2) (.slice Ao58 t320.length co58)) (fun _ hk => trivial)⟩, ⟨by (with_reducible repeat (first | apply uU | apply uS | apply uT)); exact uX (uV (p := ⟨gb286, 3, none⟩) (uV (p := ⟨gb286, 2, none⟩) (uV (p := ⟨gb286, 1, none⟩) (uV (p := ⟨gb286, 0, none⟩) (uW HO322.out BK286.out (by decide)) (fun _ hk => hk.2) (.int .i64 t317)) (fun _ hk => hk.2) (.int .i64 t318)) (fun _ hk => hk.2) (.bool t319)) (fun _ hk => hk.2) (.slice Ao58 t320.length co58)) (fun _ hk => trivial)⟩, ⟨by (with_reducible repeat (first | refine uH ?_ _ | refine uJ ?_ | refine uG ?_ _)); refine uP (cs := #[.int .i64 t317, .int .i64 t318, .bool t319, .slice Ao49 x287003_2.length co49]) ?_ 3 _ rfl; (with_reducible repeat (first | refine uH ?_ _ | refine uJ ?_ | refine uG ?_ _)); refine uP (cs := #[.int .i64 t317, .int .i64 t318, .bool x287002_2, .slice Ao49 x287003_2.length co49]) ?_ 2 _ rfl; (with_reducible repeat (first | refine uH ?_ _ | refine uJ ?_ | refine uG ?_ _)); refine uP (cs := #[.int .i64 t317, .int .i64 x287001_2, .bool x287002_2, .slice Ao49 x287003_2.length co49]) ?_ 1 _ rfl; (with_reducible repeat (first | refine uH ?_ _ | refine uJ ?_ | refine uG ?_ _)); refine uP (cs := #[.int .i64 x287000_2, .int .i64 x287001_2, .bool x287002_2, .slice Ao49 x287003_2.length co49]) ?_ 0 _ rfl; (with_reducible repeat (first | refine uH ?_ _ | refine uJ ?_ | refine uG ?_ _)); exact BK286.out⟩, ⟨by (with_reducible repeat (first | refine uH ?_ _ | refine uJ ?_ | refine uG ?_ _)); refine uQ ?_ NB287_286.out _; (with_reducible repeat (first | refine uH ?_ _ | refine uJ ?_ | refine uG ?_ _)); refine uQ ?_ NB287_286.out _; (with_reducible repeat (first | refine uH ?_ _ | refine uJ ?_ | refine uG ?_ _)); refine uQ ?_ NB287_286.out _; (with_reducible repeat (first | refine uH ?_ _ | refine uJ ?_ | refine uG ?_ _)); refine uQ ?_ NB287_286.out _; (with_reducible repeat (first | refine uH ?_ _ | refine uJ ?_ | refine uG ?_ _)); exact BK287.out⟩, ⟨by repeat (first | (with_reducible first | exact HB.out | apply uL | apply uE | apply uK | refine uM ?_ GE286.out | refine uM ?_ GE287.out | refine uM ?_ GE307.out) | exact HB.out)⟩⟩
      ·rw [if_neg c27] at H
       have c27b0 : decide (x7_2 < a1) = false := decide_eq_false c27
       clear c27
       simp only [Option.some.injEq, Prod.mk.injEq] at H
       obtain ⟨rfl, rfl, rfl, rfl, rfl⟩ := H
       have hnb59 := NB286_287.out
       have hnc59 := NB287_286.out
       have hcz60_0 : wr.cell? ⟨gb286, 0, none⟩ = some (.int .i64 x287000_2) := (uF BK286.out 0).trans rfl
       have hcz60_1 : wr.cell? ⟨gb286, 1, none⟩ = some (.int .i64 x287001_2) := (uF BK286.out 1).trans rfl
       have hcz60_2 : wr.cell? ⟨gb286, 2, none⟩ = some (.bool x287002_2) := (uF BK286.out 2).trans rfl
       have hcz60_3 : wr.cell? ⟨gb286, 3, none⟩ = some (u287003) := (uF BK286.out 3).trans rfl
       have hfz60_0 := uI BK286.out 0
       have hfz60_1 := uI BK286.out 1
       have hfz60_2 := uI BK286.out 2
       have hfz60_3 := uI BK286.out 3
       have hcz61_0 : wr.cell? ⟨gb287, 0, none⟩ = some (.int .i64 0) := (uF BK287.out 0).trans rfl
       have hcz61_1 : wr.cell? ⟨gb287, 1, none⟩ = some (.int .i64 0) := (uF BK287.out 1).trans rfl
       have hcz61_2 : wr.cell? ⟨gb287, 2, none⟩ = some (.bool false) := (uF BK287.out 2).trans rfl
       have hcz61_3 : wr.cell? ⟨gb287, 3, none⟩ = some (.slice none 0 0) := (uF BK287.out 3).trans rfl
       have hfz61_0 := uI BK287.out 0
       have hfz61_1 := uI BK287.out 1
       have hfz61_2 := uI BK287.out 2
       have hfz61_3 := uI BK287.out 3
       obtain ⟨Ao62, co62, eo62⟩ := Kd.R_slice HO_287003.out
       subst eo62
       go_wp2
       refine bodyPost_ret (uR rfl _ _ gb287 63 #[.int .i64 x287000_2, .int .i64 x287001_2, .bool x287002_2, .slice Ao62 x287003_2.length co62] (0, 0) _ rfl (by (with_reducible repeat (first | refine uH ?_ _ | refine uJ ?_ | refine uG ?_ _)); refine uP (cs := #[.int .i64 x287000_2, .int .i64 x287001_2, .bool x287002_2, .slice none 0 0]) ?_ 3 _ rfl; (with_reducible repeat (first | refine uH ?_ _ | refine uJ ?_ | refine uG ?_ _)); refine uP (cs := #[.int .i64 x287000_2, .int .i64 x287001_2, .bool false, .slice none 0 0]) ?_ 2 _ rfl; (with_reducible repeat (first | refine uH ?_ _ | refine uJ ?_ | refine uG ?_ _)); refine uP (cs := #[.int .i64 x287000_2, .int .i64 0, .bool false, .slice none 0 0]) ?_ 1 _ rfl; (with_reducible repeat (first | refine uH ?_ _ | refine uJ ?_ | refine uG ?_ _)); refine uP (cs := #[.int .i64 0, .int .i64 0, .bool false, .slice none 0 0]) ?_ 0 _ rfl; (with_reducible repeat (first | refine uH ?_ _ | refine uJ ?_ | refine uG ?_ _)); exact BK287.out) Try.underlying63 rfl (by kernel_rfl)) rfl ?_
       exact ⟨_, _, by first | rfl | (simp [errW_none, errW_some] <;> rfl) | (simp [*, errW_none, errW_some] <;> rfl), by (with_reducible repeat (first | apply uU | apply uS | apply uT)); exact uX (uV (p := ⟨gb287, 3, none⟩) (uV (p := ⟨gb287, 2, none⟩) (uV (p := ⟨gb287, 1, none⟩) (uV (p := ⟨gb287, 0, none⟩) (uW HO_287003.out BK287.out (by decide)) (fun _ hk => hk.2) (.int .i64 x287000_2)) (fun _ hk => hk.2) (.int .i64 x287001_2)) (fun _ hk => hk.2) (.bool x287002_2)) (fun _ hk => hk.2) (.slice Ao62 x287003_2.length co62)) (fun _ hk => trivial), by (with_reducible repeat (first | apply uU | apply uS | apply uT)); exact uX (uV (p := ⟨gb287, 3, none⟩) (uV (p := ⟨gb287, 2, none⟩) (uV (p := ⟨gb287, 1, none⟩) (uV (p := ⟨gb287, 0, none⟩) (uW HO_6.out BK287.out (by decide)) (fun _ hk => hk.2) (.int .i64 x287000_2)) (fun _ hk => hk.2) (.int .i64 x287001_2)) (fun _ hk => hk.2) (.bool x287002_2)) (fun _ hk => hk.2) (.slice Ao62 x287003_2.length co62)) (fun _ hk => trivial), by repeat (first | (with_reducible first | exact HB.out | apply uL | apply uE | apply uK | refine uM ?_ GE286.out | refine uM ?_ GE287.out) | exact HB.out)⟩

end Go.Proofs.Ytnnimbbffbfhoaa.PFnWindows
