-- Written by a program of this session (wip/myprint.py: the kit's print with changes): not by print.sh itself.
import Derived.Test.YtbdjbdoelbmjcaaPFnExactRunx0
import Derived.Test.YtbdjbdoelbmjcaaPFnExactRunx2
import Derived.Test.YtbdjbdoelbmjcaaPFnExactRunx3
import Derived.Test.YtbdjbdoelbmjcaaPFnExactRunx4
namespace Go.Proofs.Ytbdjbdoelbmjcaa.PFnExactRun
open Go.RowKit Go.Proofs.YtbdjbdoelbmjcaaW.PrintWords Go.Proofs.YtbdjbdoelbmjcaaW.PrintLast Go.Proofs.YtbdjbdoelbmjcaaW.PrintMore
open Go renaming Act.put → uc
open Go.Proofs.YtbdjbdoelbmjcaaW.PrintLast renaming i64_w → uZ
open Go.Proofs.YtbdjbdoelbmjcaaW.PrintWords renaming Aside0.mk → uD, blk_alloc → uG, blk_drewN → uH, blk_drew → uJ, below_set → uM, below_size → uN, below_step → uO, blk_put → uP, blk_far → uQ, results_ct → uR, Kd.R_drewN → uS, Kd.R_drew → uT, Kd.R_alloc → uU, Kd.R_far → uV, Kd.R_types → uW, Kd.R_mono → uX
open List renaming setIfInBounds_toArray → uA, set_cons_zero → uB, set_cons_succ → uC
attribute [local go_sem] max2_int min2_int max_two min_two max_three min_three max_four min_four   -- for this text's walks alone
set_option linter.unusedVariables false
set_option linter.unusedSimpArgs false

/-! ### spec_l02Step: function 52 -/
def spec_l02Step.l0 : Nat → List (S53) → Int → Int → Int → Bool → List (S53) → Option (Int × Int × Bool × (List (S53)))
 | 0, _, _, _, _, _, _ => none
 | k + 1, x3, x4, x179000, x179001, x179002, x179003 => if x4 < (x3.length : Int) then (if x4 > 0 then (if 0 ≤ (wrap64 (x4 - 1)) then (if (wrap64 (x4 - 1)) < (x3.length : Int) then (if 0 ≤ x4 then (if ((rd_T53 x3 x4).f1) < (wrap64 ((wrap64 (((rd_T53 x3 (wrap64 (x4 - 1))).f1) - ((rd_T53 x3 (wrap64 (x4 - 1))).f2))) - x179001)) then (spec_l02Step.l0 k (x3.set (x4 : Int).toNat (⟨(rd_T53 x3 x4).f0, wrap64 (((rd_T53 x3 x4).f1) + 1), (rd_T53 x3 x4).f2⟩ : S53)) (wrap64 (x4 + 1)) x179000 x179001 x179002 x179003) else (spec_l02Step.l0 k x3 (wrap64 (x4 + 1)) x179000 x179001 x179002 x179003)) else (none)) else (none)) else (none)) else (if 0 ≤ x4 then (if ((rd_T53 x3 x4).f1) < x179000 then (spec_l02Step.l0 k (x3.set (x4 : Int).toNat (⟨(rd_T53 x3 x4).f0, wrap64 (((rd_T53 x3 x4).f1) + 1), (rd_T53 x3 x4).f2⟩ : S53)) (wrap64 (x4 + 1)) x179000 x179001 x179002 x179003) else (spec_l02Step.l0 k x3 (wrap64 (x4 + 1)) x179000 x179001 x179002 x179003)) else (none))) else (some (x179000, x179001, x179002, x3))
def spec_l02Step.f (k : Nat) (a0_0 : Int) (a0_1 : Int) (a0_2 : Bool) (l0_3 : List (S53)) : Option (Int × Int × Bool × (List (S53))) := (some (([] : List (S53)) : List (S53))).bind fun y180 => (if y180.length + l0_3.length < 5864062014805 then (spec_l02Step.l0 k (y180 ++ l0_3) 0 a0_0 a0_1 a0_2 l0_3) else (none))
theorem spec_l02Step.mono_l : ∀ k, (∀ y0 y1 y2 y3 y4 y5, LeO (spec_l02Step.l0 k y0 y1 y2 y3 y4 y5) (spec_l02Step.l0 (k + 1) y0 y1 y2 y3 y4 y5))
 | 0 => fun _ _ _ _ _ _ r h => by simp [spec_l02Step.l0] at h
 | k + 1 => by
  have ih0 := spec_l02Step.mono_l k
  ·intro y0 y1 y2 y3 y4 y5
   unfold spec_l02Step.l0
   repeat' first
   | (with_reducible exact ih0 _ _ _ _ _ _)
   | (with_reducible exact LeO.refl _)
   | (with_reducible exact LeO.none _)
   | (with_reducible refine LeO.ite ?_ ?_)
   | (with_reducible refine LeO.bind ?_ (fun _ => ?_))
   | exact ih0 _ _ _ _ _ _
   | exact LeO.none _
   | refine LeO.ite ?_ ?_
   | refine LeO.bind ?_ (fun _ => ?_)
theorem spec_l02Step.mono : ∀ a0 a1 a2 a3 k, LeO (spec_l02Step.f k a0 a1 a2 a3) (spec_l02Step.f (k + 1) a0 a1 a2 a3) := by
 intro a0 a1 a2 a3 k
 have ih0 := spec_l02Step.mono_l k
 unfold spec_l02Step.f
 repeat' first
   | (with_reducible exact ih0 _ _ _ _ _ _)
   | (with_reducible exact LeO.refl _)
   | (with_reducible exact LeO.none _)
   | (with_reducible refine LeO.ite ?_ ?_)
   | (with_reducible refine LeO.bind ?_ (fun _ => ?_))
   | exact ih0 _ _ _ _ _ _
   | exact LeO.none _
   | refine LeO.ite ?_ ?_
   | refine LeO.bind ?_ (fun _ => ?_)
set_option maxHeartbeats 8000000 in
set_option maxRecDepth 100000 in
theorem spec_l02Step.calls (k : Nat) (a0_0 : Int) (a0_1 : Int) (a0_2 : Bool) (A0_3 : Option Addr) (c0_3 : Nat) (l0_3 : List (S53)) (r1 : Int) (r2 : Int) (r3 : Bool) (r4 : List (S53)) (w : World) (hr0_3 : Kd.C k53 w A0_3 l0_3.length l0_3) (hc0_3 : l0_3.length ≤ c0_3) (h : spec_l02Step.f k a0_0 a0_1 a0_2 l0_3 = some (r1, r2, r3, r4)) :
  Calls Try.prog 52 #[.agg #[.int .i64 a0_0, .int .i64 a0_1, .bool a0_2, .slice A0_3 l0_3.length c0_3]] w fun e w' => ∃ v3_ : Value, e = .returned (.agg #[.int .i64 r1, .int .i64 r2, .bool r3, v3_]) ∧ Kd.R k53 53 w' w.heap.size (fun _ => True) v3_ r4 ∧ Below w.heap.size w w' := by
 have hu29 := Try.underlying29
 have HR0_3 := uD hr0_3
 have HC0_3 := uD hc0_3
 clear hr0_3 hc0_3
 have HB := uD (Below.refl w.heap.size w)
 have H : ((some (([] : List (S53)) : List (S53))).bind fun y180 => (if y180.length + l0_3.length < 5864062014805 then (spec_l02Step.l0 k (y180 ++ l0_3) 0 a0_0 a0_1 a0_2 l0_3) else (none))) = some (r1, r2, r3, r4) := h
 clear h
 obtain ⟨y180, hy180⟩ : ∃ y_ : List (S53), y_ = (([] : List (S53))) := ⟨_, rfl⟩
 replace H : (if y180.length + l0_3.length < 5864062014805 then (spec_l02Step.l0 k (y180 ++ l0_3) 0 a0_0 a0_1 a0_2 l0_3) else (none)) = some (r1, r2, r3, r4) := by first | (rw [hy180]; with_reducible exact H) | (have H2_ := (Option.bind_some _ _).symm.trans H; rw [hy180]; with_reducible exact H2_) | (have H2_ := (Option.bind_some _ _).symm.trans H; with_reducible exact H2_) | with_reducible exact H | (rw [hy180]; exact H) | exact H
 have Ny180 := uD hy180
 clear hy180
 by_cases c2 : y180.length + l0_3.length < 5864062014805
 ·rw [if_pos c2] at H
  have LMc2 := uD c2
  clear c2
  obtain ⟨y183, hy183⟩ : ∃ y_ : List (S53), y_ = (y180 ++ l0_3) := ⟨_, rfl⟩
  replace H : (spec_l02Step.l0 k y183 0 a0_0 a0_1 a0_2 l0_3) = some (r1, r2, r3, r4) := by first | (rw [hy183]; with_reducible exact H) | (have H2_ := (Option.bind_some _ _).symm.trans H; rw [hy183]; with_reducible exact H2_) | (have H2_ := (Option.bind_some _ _).symm.trans H; with_reducible exact H2_) | with_reducible exact H | (rw [hy183]; exact H) | exact H
  have Ny183 := uD hy183
  clear hy183
  have H' := uD H
  clear H
  go_enter Try.func52, Try.ntmps52
  go_wp2_with (first | ((with_reducible refine gate_dst (N := 1) rfl ?_); refine box_event ?hg (N := 1) ?hd (cs := #[.int .i64 a0_0, .int .i64 a0_1, .bool a0_2, .slice A0_3 l0_3.length c0_3]) (t := 29) ?hr ?_; (case hd => rfl); (case hg => rfl); (case hr => first | (go_simp; done) | (go_simp; rfl)); intro gb178 hg w3 hbox hb; have BK178 := uD (hbox); have GW178 := uD ((by rw [hg]; exact (uN (pb HB)) : w.heap.size ≤ gb178)); have GE178 := uD ((by rw [hg]; exact (uN (pb HB)) : w.heap.size ≤ gb178)); replace HB := uD (uO (pb HB) hb); clear hb hbox hg) | ((with_reducible refine gate_dst (N := 2) rfl ?_); refine box_event ?hg (N := 2) ?hd (cs := #[.int .i64 0, .int .i64 0, .bool false, .slice none 0 0]) (t := 29) ?hr ?_; (case hd => rfl); (case hg => rfl); (case hr => first | (go_simp; done) | (go_simp; rfl)); intro gb179 hg w4 hbox hb; have BK179 := uD (hbox); have GW179 := uD ((by rw [hg]; exact (uN (pb HB)) : w.heap.size ≤ gb179)); have GE179 := uD ((by rw [hg]; exact (uN (pb HB)) : w.heap.size ≤ gb179)); replace HB := uD (uO (pb HB) hb); have NB178_179 := uD ((by rw [hg]; exact Nat.ne_of_lt (blk_lt (g := gb178) (o := .cells #[.int .i64 a0_0, .int .i64 a0_1, .bool a0_2, .slice A0_3 l0_3.length c0_3] 29 (0, 0)) (pk BK178)) : gb178 ≠ gb179)); have NB179_178 := uD ((by rw [hg]; exact Nat.ne_of_gt (blk_lt (g := gb178) (o := .cells #[.int .i64 a0_0, .int .i64 a0_1, .bool a0_2, .slice A0_3 l0_3.length c0_3] 29 (0, 0)) (pk BK178)) : gb179 ≠ gb178)); replace BK178 := uD (blk_below (pk BK178) hb); clear hb hbox hg) | ((with_reducible refine gate_dst (N := 6) rfl ?_); refine Kd.R_lit k53 _ 53 ?hg (N := 6) ?hd (xs := ([] : List (S53))) (inner := []) (ok := fun _ => True) (okp := fun _ => True) ?hr ?hp (fun _ hk => hk) trivial (Below.refl _ _) (Nat.le_refl _) (by simp) ?_; (case hd => rfl); (case hg => rfl); (case hr => first | (go_simp; done) | (go_simp; rfl)); (case hp => exact (Reps.none _ _)); intro v181 w5 ho6 hb hg_ hnew_; clear hg_ hnew_; (first | rw [← Ny180.out] at ho6 | (simp only [Int.reduceToNat] at ho6; rw [← Ny180.out] at ho6)); have HO182 := uD (Kd.R_lower ho6 (uN (pb HB))); replace BK178 := uD (blk_below (pk BK178) hb); replace BK179 := uD (blk_below (pk BK179) hb); replace HB := uD (uO (pb HB) hb); clear hb ho6; have hnb7 := NB178_179.out; have hnc7 := NB179_178.out; obtain ⟨hcz8_0, hcz8_1, hcz8_2, hcz8_3, hfz8_0, hfz8_1, hfz8_2, hfz8_3⟩ := cz4 BK178) | ((with_reducible refine gate_builtin (b := .append) (xs := #[.tmp 6, .tmp 8]) rfl ?_); at_builtin; refine Kd.R_append_rows k53 (w0 := w) w.heap.size rfl (.tmp 6) (.tmp 8) 27 53 (.agg #[(.int .i64 0), (.int .i64 0), (.int .i64 0)]) 24 rfl Try.underlying27 info53 rfl (by decide) (by omega) v181 y180 l0_3 _ _ _ (fun _ => True) (fun _ => False) rfl rfl ?aO ?aR (fun _ _ h => h) (fun _ h => h.elim) ?aF ?aB ?aS ?aL ?_; (case aR => repeat (first | exact (Kd.C_below HR0_3.out HB.out) | (with_reducible refine Kd.C_alloc ?_ _) | (with_reducible refine Kd.C_drewN ?_ _) | (with_reducible refine Kd.C_drew ?_))); (case aB => exact (pb HB)); (case aF => exact (fun _ _ => trivial)); (case aO => exact (pr HO182)); (case aS => exact (uN (pb HB))); (case aL => have := LMc2.out; omega); intro v184 w9 ho hb hg hat; rw [← Ny183.out] at ho; replace BK178 := uD (blk_grown (g := gb178) (o := .cells #[.int .i64 a0_0, .int .i64 a0_1, .bool a0_2, .slice A0_3 l0_3.length c0_3] 29 (0, 0)) (pk BK178) hg (Kd.R_ne HO182.out BK178.out (by decide))); replace BK179 := uD (blk_grown (g := gb179) (o := .cells #[.int .i64 0, .int .i64 0, .bool false, .slice none 0 0] 29 (0, 0)) (pk BK179) hg (Kd.R_ne HO182.out BK179.out (by decide))); replace HB := uD (hb); have HO185 := uD (ho); clear HO182; clear ho hb hg hat))
  repeat (go_quiet (first | ((with_reducible refine gate_dst (N := 1) rfl ?_); refine box_event ?hg (N := 1) ?hd (cs := #[.int .i64 a0_0, .int .i64 a0_1, .bool a0_2, .slice A0_3 l0_3.length c0_3]) (t := 29) ?hr ?_; (case hd => rfl); (case hg => rfl); (case hr => first | (go_simp; done) | (go_simp; rfl)); intro gb178 hg w3 hbox hb; have BK178 := uD (hbox); have GW178 := uD ((by rw [hg]; exact (uN (pb HB)) : w.heap.size ≤ gb178)); have GE178 := uD ((by rw [hg]; exact (uN (pb HB)) : w.heap.size ≤ gb178)); replace HB := uD (uO (pb HB) hb); clear hb hbox hg) | ((with_reducible refine gate_dst (N := 2) rfl ?_); refine box_event ?hg (N := 2) ?hd (cs := #[.int .i64 0, .int .i64 0, .bool false, .slice none 0 0]) (t := 29) ?hr ?_; (case hd => rfl); (case hg => rfl); (case hr => first | (go_simp; done) | (go_simp; rfl)); intro gb179 hg w4 hbox hb; have BK179 := uD (hbox); have GW179 := uD ((by rw [hg]; exact (uN (pb HB)) : w.heap.size ≤ gb179)); have GE179 := uD ((by rw [hg]; exact (uN (pb HB)) : w.heap.size ≤ gb179)); replace HB := uD (uO (pb HB) hb); have NB178_179 := uD ((by rw [hg]; exact Nat.ne_of_lt (blk_lt (g := gb178) (o := .cells #[.int .i64 a0_0, .int .i64 a0_1, .bool a0_2, .slice A0_3 l0_3.length c0_3] 29 (0, 0)) (pk BK178)) : gb178 ≠ gb179)); have NB179_178 := uD ((by rw [hg]; exact Nat.ne_of_gt (blk_lt (g := gb178) (o := .cells #[.int .i64 a0_0, .int .i64 a0_1, .bool a0_2, .slice A0_3 l0_3.length c0_3] 29 (0, 0)) (pk BK178)) : gb179 ≠ gb178)); replace BK178 := uD (blk_below (pk BK178) hb); clear hb hbox hg) | ((with_reducible refine gate_dst (N := 6) rfl ?_); refine Kd.R_lit k53 _ 53 ?hg (N := 6) ?hd (xs := ([] : List (S53))) (inner := []) (ok := fun _ => True) (okp := fun _ => True) ?hr ?hp (fun _ hk => hk) trivial (Below.refl _ _) (Nat.le_refl _) (by simp) ?_; (case hd => rfl); (case hg => rfl); (case hr => first | (go_simp; done) | (go_simp; rfl)); (case hp => exact (Reps.none _ _)); intro v181 w5 ho6 hb hg_ hnew_; clear hg_ hnew_; (first | rw [← Ny180.out] at ho6 | (simp only [Int.reduceToNat] at ho6; rw [← Ny180.out] at ho6)); have HO182 := uD (Kd.R_lower ho6 (uN (pb HB))); replace BK178 := uD (blk_below (pk BK178) hb); replace BK179 := uD (blk_below (pk BK179) hb); replace HB := uD (uO (pb HB) hb); clear hb ho6; have hnb7 := NB178_179.out; have hnc7 := NB179_178.out; obtain ⟨hcz8_0, hcz8_1, hcz8_2, hcz8_3, hfz8_0, hfz8_1, hfz8_2, hfz8_3⟩ := cz4 BK178) | ((with_reducible refine gate_builtin (b := .append) (xs := #[.tmp 6, .tmp 8]) rfl ?_); at_builtin; refine Kd.R_append_rows k53 (w0 := w) w.heap.size rfl (.tmp 6) (.tmp 8) 27 53 (.agg #[(.int .i64 0), (.int .i64 0), (.int .i64 0)]) 24 rfl Try.underlying27 info53 rfl (by decide) (by omega) v181 y180 l0_3 _ _ _ (fun _ => True) (fun _ => False) rfl rfl ?aO ?aR (fun _ _ h => h) (fun _ h => h.elim) ?aF ?aB ?aS ?aL ?_; (case aR => repeat (first | exact (Kd.C_below HR0_3.out HB.out) | (with_reducible refine Kd.C_alloc ?_ _) | (with_reducible refine Kd.C_drewN ?_ _) | (with_reducible refine Kd.C_drew ?_))); (case aB => exact (pb HB)); (case aF => exact (fun _ _ => trivial)); (case aO => exact (pr HO182)); (case aS => exact (uN (pb HB))); (case aL => have := LMc2.out; omega); intro v184 w9 ho hb hg hat; rw [← Ny183.out] at ho; replace BK178 := uD (blk_grown (g := gb178) (o := .cells #[.int .i64 a0_0, .int .i64 a0_1, .bool a0_2, .slice A0_3 l0_3.length c0_3] 29 (0, 0)) (pk BK178) hg (Kd.R_ne HO182.out BK178.out (by decide))); replace BK179 := uD (blk_grown (g := gb179) (o := .cells #[.int .i64 0, .int .i64 0, .bool false, .slice none 0 0] 29 (0, 0)) (pk BK179) hg (Kd.R_ne HO182.out BK179.out (by decide))); replace HB := uD (hb); have HO185 := uD (ho); clear HO182; clear ho hb hg hat)); try go_wp2_with (first | ((with_reducible refine gate_dst (N := 1) rfl ?_); refine box_event ?hg (N := 1) ?hd (cs := #[.int .i64 a0_0, .int .i64 a0_1, .bool a0_2, .slice A0_3 l0_3.length c0_3]) (t := 29) ?hr ?_; (case hd => rfl); (case hg => rfl); (case hr => first | (go_simp; done) | (go_simp; rfl)); intro gb178 hg w3 hbox hb; have BK178 := uD (hbox); have GW178 := uD ((by rw [hg]; exact (uN (pb HB)) : w.heap.size ≤ gb178)); have GE178 := uD ((by rw [hg]; exact (uN (pb HB)) : w.heap.size ≤ gb178)); replace HB := uD (uO (pb HB) hb); clear hb hbox hg) | ((with_reducible refine gate_dst (N := 2) rfl ?_); refine box_event ?hg (N := 2) ?hd (cs := #[.int .i64 0, .int .i64 0, .bool false, .slice none 0 0]) (t := 29) ?hr ?_; (case hd => rfl); (case hg => rfl); (case hr => first | (go_simp; done) | (go_simp; rfl)); intro gb179 hg w4 hbox hb; have BK179 := uD (hbox); have GW179 := uD ((by rw [hg]; exact (uN (pb HB)) : w.heap.size ≤ gb179)); have GE179 := uD ((by rw [hg]; exact (uN (pb HB)) : w.heap.size ≤ gb179)); replace HB := uD (uO (pb HB) hb); have NB178_179 := uD ((by rw [hg]; exact Nat.ne_of_lt (blk_lt (g := gb178) (o := .cells #[.int .i64 a0_0, .int .i64 a0_1, .bool a0_2, .slice A0_3 l0_3.length c0_3] 29 (0, 0)) (pk BK178)) : gb178 ≠ gb179)); have NB179_178 := uD ((by rw [hg]; exact Nat.ne_of_gt (blk_lt (g := gb178) (o := .cells #[.int .i64 a0_0, .int .i64 a0_1, .bool a0_2, .slice A0_3 l0_3.length c0_3] 29 (0, 0)) (pk BK178)) : gb179 ≠ gb178)); replace BK178 := uD (blk_below (pk BK178) hb); clear hb hbox hg) | ((with_reducible refine gate_dst (N := 6) rfl ?_); refine Kd.R_lit k53 _ 53 ?hg (N := 6) ?hd (xs := ([] : List (S53))) (inner := []) (ok := fun _ => True) (okp := fun _ => True) ?hr ?hp (fun _ hk => hk) trivial (Below.refl _ _) (Nat.le_refl _) (by simp) ?_; (case hd => rfl); (case hg => rfl); (case hr => first | (go_simp; done) | (go_simp; rfl)); (case hp => exact (Reps.none _ _)); intro v181 w5 ho6 hb hg_ hnew_; clear hg_ hnew_; (first | rw [← Ny180.out] at ho6 | (simp only [Int.reduceToNat] at ho6; rw [← Ny180.out] at ho6)); have HO182 := uD (Kd.R_lower ho6 (uN (pb HB))); replace BK178 := uD (blk_below (pk BK178) hb); replace BK179 := uD (blk_below (pk BK179) hb); replace HB := uD (uO (pb HB) hb); clear hb ho6; have hnb7 := NB178_179.out; have hnc7 := NB179_178.out; obtain ⟨hcz8_0, hcz8_1, hcz8_2, hcz8_3, hfz8_0, hfz8_1, hfz8_2, hfz8_3⟩ := cz4 BK178) | ((with_reducible refine gate_builtin (b := .append) (xs := #[.tmp 6, .tmp 8]) rfl ?_); at_builtin; refine Kd.R_append_rows k53 (w0 := w) w.heap.size rfl (.tmp 6) (.tmp 8) 27 53 (.agg #[(.int .i64 0), (.int .i64 0), (.int .i64 0)]) 24 rfl Try.underlying27 info53 rfl (by decide) (by omega) v181 y180 l0_3 _ _ _ (fun _ => True) (fun _ => False) rfl rfl ?aO ?aR (fun _ _ h => h) (fun _ h => h.elim) ?aF ?aB ?aS ?aL ?_; (case aR => repeat (first | exact (Kd.C_below HR0_3.out HB.out) | (with_reducible refine Kd.C_alloc ?_ _) | (with_reducible refine Kd.C_drewN ?_ _) | (with_reducible refine Kd.C_drew ?_))); (case aB => exact (pb HB)); (case aF => exact (fun _ _ => trivial)); (case aO => exact (pr HO182)); (case aS => exact (uN (pb HB))); (case aL => have := LMc2.out; omega); intro v184 w9 ho hb hg hat; rw [← Ny183.out] at ho; replace BK178 := uD (blk_grown (g := gb178) (o := .cells #[.int .i64 a0_0, .int .i64 a0_1, .bool a0_2, .slice A0_3 l0_3.length c0_3] 29 (0, 0)) (pk BK178) hg (Kd.R_ne HO182.out BK178.out (by decide))); replace BK179 := uD (blk_grown (g := gb179) (o := .cells #[.int .i64 0, .int .i64 0, .bool false, .slice none 0 0] 29 (0, 0)) (pk BK179) hg (Kd.R_ne HO182.out BK179.out (by decide))); replace HB := uD (hb); have HO185 := uD (ho); clear HO182; clear ho hb hg hat)))
  go_loopg [4] k (fun kq v4 w' => ∃ (x3_1 : List (S53)) (x4_1 : Int), v4 = .int .i64 x4_1 ∧ Aside0 (spec_l02Step.l0 kq x3_1 x4_1 a0_0 a0_1 a0_2 l0_3 = some (r1, r2, r3, r4)) ∧ Aside0 (kq ≤ k) ∧ Aside0 (Kd.R k53 53 w' w.heap.size (fun _ => True) v184 x3_1) ∧ Aside0 (w'.heap[gb178]? = some (.cells #[.int .i64 a0_0, .int .i64 a0_1, .bool a0_2, (.slice A0_3 l0_3.length c0_3)] 29 (0, 0))) ∧ Aside0 (w'.heap[gb179]? = some (.cells #[.int .i64 0, .int .i64 0, .bool false, (.slice none 0 0)] 29 (0, 0))) ∧ Aside0 (Below w.heap.size w w'))
  case atStart => exact ⟨(y183), (0), (by first | rfl | (simp; done) | (simp [*]; done)), H', ⟨Nat.le_refl _⟩, ⟨by (with_reducible repeat (first | apply uU | apply uS | apply uT)); exact HO185.out⟩, ⟨by (with_reducible repeat (first | refine uH ?_ _ | refine uJ ?_ | refine uG ?_ _)); exact BK178.out⟩, ⟨by (with_reducible repeat (first | refine uH ?_ _ | refine uJ ?_ | refine uG ?_ _)); exact BK179.out⟩, ⟨pb HB⟩⟩
  case round =>
   clear H'
   try clear c2
   try clear p2
   try clear c5
   try clear c7
   try clear hcz8_0
   try clear hcz8_1
   try clear hcz8_2
   try clear hcz8_3
   try clear hfz8_0
   try clear hfz8_1
   try clear hfz8_2
   try clear hfz8_3
   obtain ⟨x3_1, x4_1, rfl, HA, HK1, HO_3, BK178, BK179, HB⟩ := hrel
   cases gk with
   | zero => exact absurd HA.out (by simp [spec_l02Step.l0])
   | succ k1 =>
    have H := HA.out
    clear HA
    simp only [spec_l02Step.l0] at H
    by_cases c10 : x4_1 < (x3_1.length : Int)
    ·rw [if_pos c10] at H
     have c10b0 : decide (x4_1 < (x3_1.length : Int)) = true := decide_eq_true c10
     clear c10
     by_cases c11 : x4_1 > 0
     ·rw [if_pos c11] at H
      have c11b0 : decide (0 < x4_1) = true := decide_eq_true c11
      clear c11
      obtain ⟨ji12, hji12⟩ : ∃ j_ : Int, (wrap64 (x4_1 - 1)) = j_ := ⟨_, rfl⟩
      replace H : (if 0 ≤ (ji12) then (if (ji12) < (x3_1.length : Int) then (if 0 ≤ x4_1 then (if ((rd_T53 x3_1 x4_1).f1) < (wrap64 ((wrap64 (((rd_T53 x3_1 (ji12)).f1) - ((rd_T53 x3_1 (ji12)).f2))) - a0_1)) then (spec_l02Step.l0 k1 (x3_1.set (x4_1 : Int).toNat (⟨(rd_T53 x3_1 x4_1).f0, wrap64 (((rd_T53 x3_1 x4_1).f1) + 1), (rd_T53 x3_1 x4_1).f2⟩ : S53)) (wrap64 (x4_1 + 1)) a0_0 a0_1 a0_2 l0_3) else (spec_l02Step.l0 k1 x3_1 (wrap64 (x4_1 + 1)) a0_0 a0_1 a0_2 l0_3)) else (none)) else (none)) else (none)) = some (r1, r2, r3, r4) := by first | (rw [hji12] at H; exact H) | (simp only [hji12] at H ⊢; exact H)
      have hji12w : (IntKind.i64.wrap (x4_1 - 1)) = ji12 := (uZ _).trans hji12
      by_cases c13 : 0 ≤ (ji12)
      ·rw [if_pos c13] at H
       have c13b0 : decide (0 ≤ (ji12)) = true := decide_eq_true c13
       clear c13
       by_cases c14 : (ji12) < (x3_1.length : Int)
       ·rw [if_pos c14] at H
        have c14b0 : decide ((ji12) < (x3_1.length : Int)) = true := decide_eq_true c14
        clear c14
        by_cases c15 : 0 ≤ x4_1
        ·rw [if_pos c15] at H
         have c15b0 : decide (0 ≤ x4_1) = true := decide_eq_true c15
         clear c15
         by_cases c16 : ((rd_T53 x3_1 x4_1).f1) < (wrap64 ((wrap64 (((rd_T53 x3_1 (ji12)).f1) - ((rd_T53 x3_1 (ji12)).f2))) - a0_1))
         ·rw [if_pos c16] at H
          have c16b0 : decide (((rd_T53 x3_1 x4_1).f1) < (wrap64 ((wrap64 (((rd_T53 x3_1 (ji12)).f1) - ((rd_T53 x3_1 (ji12)).f2))) - a0_1))) = true := decide_eq_true c16
          clear c16
          obtain ⟨y190, hy190⟩ : ∃ y_ : List (S53), y_ = (x3_1.set (x4_1 : Int).toNat (⟨(rd_T53 x3_1 x4_1).f0, wrap64 (((rd_T53 x3_1 x4_1).f1) + 1), (rd_T53 x3_1 x4_1).f2⟩ : S53)) := ⟨_, rfl⟩
          replace H : (spec_l02Step.l0 k1 y190 (wrap64 (x4_1 + 1)) a0_0 a0_1 a0_2 l0_3) = some (r1, r2, r3, r4) := by first | (rw [hy190]; with_reducible exact H) | (have H2_ := (Option.bind_some _ _).symm.trans H; rw [hy190]; with_reducible exact H2_) | (have H2_ := (Option.bind_some _ _).symm.trans H; with_reducible exact H2_) | with_reducible exact H | (rw [hy190]; exact H) | exact H
          have Ny190 := uD hy190
          clear hy190
          have H' := uD H
          clear H
          obtain ⟨Ao18, co18, eo18⟩ := Kd.R_slice HO_3.out
          subst eo18
          have hnb19 := NB178_179.out
          have hnc19 := NB179_178.out
          obtain ⟨hcz20_0, hcz20_1, hcz20_2, hcz20_3, hfz20_0, hfz20_1, hfz20_2, hfz20_3⟩ := cz4 BK178
          have p186 : 0 ≤ ((ji12) : Int) := of_decide_eq_true (by first | (with_reducible assumption) | assumption)
          have q186 : (ji12) < (x3_1.length : Int) := of_decide_eq_true (by first | (with_reducible assumption) | assumption)
          obtain ⟨ad186, e186, hx186_0, hx186_1, hx186_2⟩ := at_T53 (Kd.R_reads' HO_3.out).2.2 (ji12) p186 q186
          cases e186
          replace p186 := eq_true p186
          replace q186 := eq_true q186
          have p187 : 0 ≤ ((ji12) : Int) := of_decide_eq_true (by first | (with_reducible assumption) | assumption)
          have q187 : (ji12) < (x3_1.length : Int) := of_decide_eq_true (by first | (with_reducible assumption) | assumption)
          obtain ⟨ad187, e187, hx187_0, hx187_1, hx187_2⟩ := at_T53 (Kd.R_reads' HO_3.out).2.2 (ji12) p187 q187
          obtain rfl : ad186 = ad187 := (by injection e187)
          replace p187 := eq_true p187
          replace q187 := eq_true q187
          have p188 : 0 ≤ (x4_1 : Int) := of_decide_eq_true (by first | (with_reducible assumption) | assumption)
          have q188 : x4_1 < (x3_1.length : Int) := of_decide_eq_true (by first | (with_reducible assumption) | assumption)
          obtain ⟨ad188, e188, hx188_0, hx188_1, hx188_2⟩ := at_T53 (Kd.R_reads' HO_3.out).2.2 x4_1 p188 q188
          obtain rfl : ad186 = ad188 := (by injection e188)
          replace p188 := eq_true p188
          replace q188 := eq_true q188
          have p189 : 0 ≤ (x4_1 : Int) := of_decide_eq_true (by first | (with_reducible assumption) | assumption)
          have q189 : x4_1 < (x3_1.length : Int) := of_decide_eq_true (by first | (with_reducible assumption) | assumption)
          obtain ⟨ad189, e189, hx189_0, hx189_1, hx189_2⟩ := at_T53 (Kd.R_reads' HO_3.out).2.2 x4_1 p189 q189
          obtain rfl : ad186 = ad189 := (by injection e189)
          replace p189 := eq_true p189
          replace q189 := eq_true q189
          have p17 : 0 ≤ (x4_1 : Int) := of_decide_eq_true (by first | (with_reducible assumption) | assumption)
          have q17 : (x4_1 : Int) < ((x3_1.length : Int) : Int) := of_decide_eq_true (by first | (with_reducible assumption) | assumption)
          obtain ⟨go17, co17, eo17, gb17, gl17, cl17, HG17⟩ := Kd.R_form HO_3.out (by omega)
          (first | cases eo17 | (injection eo17 with ea_ en_ ec_; (first | subst ea_ | (injection ea_ with ea_; subst ea_)); subst ec_; clear en_))
          have GB17 := uD gb17
          have GG17 := uD HG17
          clear gb17 gl17 HG17
          (first | simp only [add_plain] at hx186_0 | skip)
          (first | simp only [add_plain] at hx186_1 | skip)
          (first | simp only [add_plain] at hx186_2 | skip)
          (first | simp only [add_plain] at hx187_0 | skip)
          (first | simp only [add_plain] at hx187_1 | skip)
          (first | simp only [add_plain] at hx187_2 | skip)
          (first | simp only [add_plain] at hx188_0 | skip)
          (first | simp only [add_plain] at hx188_1 | skip)
          (first | simp only [add_plain] at hx188_2 | skip)
          (first | simp only [add_plain] at hx189_0 | skip)
          (first | simp only [add_plain] at hx189_1 | skip)
          (first | simp only [add_plain] at hx189_2 | skip)
          obtain ⟨ce17, hcl17, hM17, hcc17, hfr17⟩ := Kd.R_elem HO_3.out z53 (x4_1 : Int) p17 q17
          obtain rfl := k53_openM hM17
          have hx17_0 : wr.cell? ⟨go17, (x4_1 : Int).toNat * 3, none⟩ = some (.int .i64 ((rd_T53 x3_1 x4_1).f0)) := hcc17 0 _ rfl
          have hx17_1 : wr.cell? ⟨go17, (x4_1 : Int).toNat * 3 + 1, none⟩ = some (.int .i64 ((rd_T53 x3_1 x4_1).f1)) := hcc17 1 _ rfl
          have hx17_2 : wr.cell? ⟨go17, (x4_1 : Int).toNat * 3 + 2, none⟩ = some (.int .i64 ((rd_T53 x3_1 x4_1).f2)) := hcc17 2 _ rfl
          have hf17_0 : wr.frozen? ⟨go17, (x4_1 : Int).toNat * 3, none⟩ = false := hfr17 0
          have hf17_1 : wr.frozen? ⟨go17, (x4_1 : Int).toNat * 3 + 1, none⟩ = false := hfr17 1
          have hf17_2 : wr.frozen? ⟨go17, (x4_1 : Int).toNat * 3 + 2, none⟩ = false := hfr17 2
          clear hcl17 hcc17 hfr17 hM17
          replace p17 := eq_true p17
          replace q17 := eq_true q17
          have HX21 := uD (show Kd.R k53 53 wr w.heap.size (fun _ => True) (.slice (some ⟨go17, 0, none⟩) x3_1.length co18) x3_1 from (pr HO_3))
          obtain ⟨ce21, hcl21, hM21, hcc21, hfr21⟩ := Kd.R_elem HX21.out z53 (x4_1 : Int) (of_decide_eq_true (by first | (with_reducible assumption) | assumption)) (by have h_ : (x4_1 : Int) < ((x3_1.length : Int) : Int) := of_decide_eq_true (by first | (with_reducible assumption) | assumption); first | exact h_ | (have e_ := (Kd.R_reads' HO_3.out).1; omega) | simpa using h_)
          obtain rfl := k53_openM hM21
          have HP21 := Kd.R_seg HX21.out (x4_1 : Int) (of_decide_eq_true (by first | (with_reducible assumption) | assumption)) (by have h_ : (x4_1 : Int) < ((x3_1.length : Int) : Int) := of_decide_eq_true (by first | (with_reducible assumption) | assumption); first | exact h_ | (have e_ := (Kd.R_reads' HO_3.out).1; omega) | simpa using h_) (seg := [.int .i64 (wrap64 (((rd_T53 x3_1 x4_1).f1) + 1))]) (j := 1) hcl21 hcc21 (show 2 ≤ 3 from by decide) (x' := (⟨(rd_T53 x3_1 x4_1).f0, wrap64 (((rd_T53 x3_1 x4_1).f1) + 1), (rd_T53 x3_1 x4_1).f2⟩ : S53)) (k53_mkM _ _ _ (⟨(rd_T53 x3_1 x4_1).f0, wrap64 (((rd_T53 x3_1 x4_1).f1) + 1), (rd_T53 x3_1 x4_1).f2⟩ : S53) ) (fun _ hk => hk)
          have hx21_1 := hcc21 1 _ rfl
          (try simp only [show (k53).sz = 3 from rfl, Nat.mul_one, Nat.add_zero] at hx21_1)
          have hf21_1 := hfr21 1
          (try simp only [show (k53).sz = 3 from rfl, Nat.mul_one, Nat.add_zero] at hf21_1)
          clear hcl21 hcc21 hfr21 hM21
          go_wp2_with (first | ((with_reducible refine gate_store (t := 3) (p := 52) rfl ?_); (try (rw [drewN_self wr]; generalize hq_ : World.drewN wr _ = wr; have n0_ := uD (Kd.R_at hq_ HO_3.out); have n1_ := uD (blk_at hq_ BK178.out); have n2_ := uD (blk_at hq_ BK179.out); have n3_ := uD (below_at hq_ HB.out); clear hq_ HO_3 BK178 BK179 HB; have HO_3 := n0_; have BK178 := n1_; have BK179 := n2_; have HB := n3_; clear n0_ n1_ n2_ n3_; (try (have HX21 := uD (show Kd.R k53 53 wr w.heap.size (fun _ => True) (.slice (some ⟨go17, 0, none⟩) x3_1.length co18) x3_1 from (pr HO_3)))); (try (obtain ⟨ce21, hcl21, hM21, hcc21, hfr21⟩ := Kd.R_elem HX21.out z53 (x4_1 : Int) (of_decide_eq_true (by first | (with_reducible assumption) | assumption)) (by have h_ : (x4_1 : Int) < ((x3_1.length : Int) : Int) := of_decide_eq_true (by first | (with_reducible assumption) | assumption); first | exact h_ | (have e_ := (Kd.R_reads' HO_3.out).1; omega) | simpa using h_))); (try (obtain rfl := k53_openM hM21)); (try (have HP21 := Kd.R_seg HX21.out (x4_1 : Int) (of_decide_eq_true (by first | (with_reducible assumption) | assumption)) (by have h_ : (x4_1 : Int) < ((x3_1.length : Int) : Int) := of_decide_eq_true (by first | (with_reducible assumption) | assumption); first | exact h_ | (have e_ := (Kd.R_reads' HO_3.out).1; omega) | simpa using h_) (seg := [.int .i64 (wrap64 (((rd_T53 x3_1 x4_1).f1) + 1))]) (j := 1) hcl21 hcc21 (show 2 ≤ 3 from by decide) (x' := (⟨(rd_T53 x3_1 x4_1).f0, wrap64 (((rd_T53 x3_1 x4_1).f1) + 1), (rd_T53 x3_1 x4_1).f2⟩ : S53)) (k53_mkM _ _ _ (⟨(rd_T53 x3_1 x4_1).f0, wrap64 (((rd_T53 x3_1 x4_1).f1) + 1), (rd_T53 x3_1 x4_1).f2⟩ : S53) ) (fun _ hk => hk))); (try (have hx21_1 := hcc21 1 _ rfl)); (try (try simp only [show (k53).sz = 3 from rfl, Nat.mul_one, Nat.add_zero] at hx21_1)); (try (have hf21_1 := hfr21 1)); (try (try simp only [show (k53).sz = 3 from rfl, Nat.mul_one, Nat.add_zero] at hf21_1)); (try (clear hcl21 hcc21 hfr21 hM21)))); refine store_event (t := 3) (p := 52) (v := ?vo_w22) (w1 := (wr.setCell ⟨go17, (x4_1 : Int).toNat * 3 + 1, none⟩ (.int .i64 (wrap64 (((rd_T53 x3_1 x4_1).f1) + 1))))) ?hg ?ho ?hn ?hr ?_; (case ho => rfl); (case hg => rfl); (case hn => rfl); (case hr => first | (go_simp; done) | (go_simp; rfl)); intro w22 hw; have hg : wr.grownBy w22 (some go17) := (by rw [hw]; exact HP21.2); have hp_ : Kd.R k53 53 w22 w.heap.size (fun _ => True) (.slice (some ⟨go17, 0, none⟩) x3_1.length co18) y190 := (by rw [hw, Ny190.out]; exact HP21.1); clear HP21; replace BK178 := uD (blk_grown (g := gb178) (o := .cells #[.int .i64 a0_0, .int .i64 a0_1, .bool a0_2, .slice A0_3 l0_3.length c0_3] 29 (0, 0)) (pk BK178) hg (Kd.R_ne HO_3.out BK178.out (by decide))); replace BK179 := uD (blk_grown (g := gb179) (o := .cells #[.int .i64 0, .int .i64 0, .bool false, .slice none 0 0] 29 (0, 0)) (pk BK179) hg (Kd.R_ne HO_3.out BK179.out (by decide))); replace HO_3 := uD (hp_); replace HB := uD ((by rw [hw]; exact uM (HB.out) GB17.out : Below w.heap.size w w22)); clear hg hw hp_))
          repeat (go_quiet (first | ((with_reducible refine gate_store (t := 3) (p := 52) rfl ?_); (try (rw [drewN_self wr]; generalize hq_ : World.drewN wr _ = wr; have n0_ := uD (Kd.R_at hq_ HO_3.out); have n1_ := uD (blk_at hq_ BK178.out); have n2_ := uD (blk_at hq_ BK179.out); have n3_ := uD (below_at hq_ HB.out); clear hq_ HO_3 BK178 BK179 HB; have HO_3 := n0_; have BK178 := n1_; have BK179 := n2_; have HB := n3_; clear n0_ n1_ n2_ n3_; (try (have HX21 := uD (show Kd.R k53 53 wr w.heap.size (fun _ => True) (.slice (some ⟨go17, 0, none⟩) x3_1.length co18) x3_1 from (pr HO_3)))); (try (obtain ⟨ce21, hcl21, hM21, hcc21, hfr21⟩ := Kd.R_elem HX21.out z53 (x4_1 : Int) (of_decide_eq_true (by first | (with_reducible assumption) | assumption)) (by have h_ : (x4_1 : Int) < ((x3_1.length : Int) : Int) := of_decide_eq_true (by first | (with_reducible assumption) | assumption); first | exact h_ | (have e_ := (Kd.R_reads' HO_3.out).1; omega) | simpa using h_))); (try (obtain rfl := k53_openM hM21)); (try (have HP21 := Kd.R_seg HX21.out (x4_1 : Int) (of_decide_eq_true (by first | (with_reducible assumption) | assumption)) (by have h_ : (x4_1 : Int) < ((x3_1.length : Int) : Int) := of_decide_eq_true (by first | (with_reducible assumption) | assumption); first | exact h_ | (have e_ := (Kd.R_reads' HO_3.out).1; omega) | simpa using h_) (seg := [.int .i64 (wrap64 (((rd_T53 x3_1 x4_1).f1) + 1))]) (j := 1) hcl21 hcc21 (show 2 ≤ 3 from by decide) (x' := (⟨(rd_T53 x3_1 x4_1).f0, wrap64 (((rd_T53 x3_1 x4_1).f1) + 1), (rd_T53 x3_1 x4_1).f2⟩ : S53)) (k53_mkM _ _ _ (⟨(rd_T53 x3_1 x4_1).f0, wrap64 (((rd_T53 x3_1 x4_1).f1) + 1), (rd_T53 x3_1 x4_1).f2⟩ : S53) ) (fun _ hk => hk))); (try (have hx21_1 := hcc21 1 _ rfl)); (try (try simp only [show (k53).sz = 3 from rfl, Nat.mul_one, Nat.add_zero] at hx21_1)); (try (have hf21_1 := hfr21 1)); (try (try simp only [show (k53).sz = 3 from rfl, Nat.mul_one, Nat.add_zero] at hf21_1)); (try (clear hcl21 hcc21 hfr21 hM21)))); refine store_event (t := 3) (p := 52) (v := ?vo_w22) (w1 := (wr.setCell ⟨go17, (x4_1 : Int).toNat * 3 + 1, none⟩ (.int .i64 (wrap64 (((rd_T53 x3_1 x4_1).f1) + 1))))) ?hg ?ho ?hn ?hr ?_; (case ho => rfl); (case hg => rfl); (case hn => rfl); (case hr => first | (go_simp; done) | (go_simp; rfl)); intro w22 hw; have hg : wr.grownBy w22 (some go17) := (by rw [hw]; exact HP21.2); have hp_ : Kd.R k53 53 w22 w.heap.size (fun _ => True) (.slice (some ⟨go17, 0, none⟩) x3_1.length co18) y190 := (by rw [hw, Ny190.out]; exact HP21.1); clear HP21; replace BK178 := uD (blk_grown (g := gb178) (o := .cells #[.int .i64 a0_0, .int .i64 a0_1, .bool a0_2, .slice A0_3 l0_3.length c0_3] 29 (0, 0)) (pk BK178) hg (Kd.R_ne HO_3.out BK178.out (by decide))); replace BK179 := uD (blk_grown (g := gb179) (o := .cells #[.int .i64 0, .int .i64 0, .bool false, .slice none 0 0] 29 (0, 0)) (pk BK179) hg (Kd.R_ne HO_3.out BK179.out (by decide))); replace HO_3 := uD (hp_); replace HB := uD ((by rw [hw]; exact uM (HB.out) GB17.out : Below w.heap.size w w22)); clear hg hw hp_)); try go_wp2_with (first | ((with_reducible refine gate_store (t := 3) (p := 52) rfl ?_); (try (rw [drewN_self wr]; generalize hq_ : World.drewN wr _ = wr; have n0_ := uD (Kd.R_at hq_ HO_3.out); have n1_ := uD (blk_at hq_ BK178.out); have n2_ := uD (blk_at hq_ BK179.out); have n3_ := uD (below_at hq_ HB.out); clear hq_ HO_3 BK178 BK179 HB; have HO_3 := n0_; have BK178 := n1_; have BK179 := n2_; have HB := n3_; clear n0_ n1_ n2_ n3_; (try (have HX21 := uD (show Kd.R k53 53 wr w.heap.size (fun _ => True) (.slice (some ⟨go17, 0, none⟩) x3_1.length co18) x3_1 from (pr HO_3)))); (try (obtain ⟨ce21, hcl21, hM21, hcc21, hfr21⟩ := Kd.R_elem HX21.out z53 (x4_1 : Int) (of_decide_eq_true (by first | (with_reducible assumption) | assumption)) (by have h_ : (x4_1 : Int) < ((x3_1.length : Int) : Int) := of_decide_eq_true (by first | (with_reducible assumption) | assumption); first | exact h_ | (have e_ := (Kd.R_reads' HO_3.out).1; omega) | simpa using h_))); (try (obtain rfl := k53_openM hM21)); (try (have HP21 := Kd.R_seg HX21.out (x4_1 : Int) (of_decide_eq_true (by first | (with_reducible assumption) | assumption)) (by have h_ : (x4_1 : Int) < ((x3_1.length : Int) : Int) := of_decide_eq_true (by first | (with_reducible assumption) | assumption); first | exact h_ | (have e_ := (Kd.R_reads' HO_3.out).1; omega) | simpa using h_) (seg := [.int .i64 (wrap64 (((rd_T53 x3_1 x4_1).f1) + 1))]) (j := 1) hcl21 hcc21 (show 2 ≤ 3 from by decide) (x' := (⟨(rd_T53 x3_1 x4_1).f0, wrap64 (((rd_T53 x3_1 x4_1).f1) + 1), (rd_T53 x3_1 x4_1).f2⟩ : S53)) (k53_mkM _ _ _ (⟨(rd_T53 x3_1 x4_1).f0, wrap64 (((rd_T53 x3_1 x4_1).f1) + 1), (rd_T53 x3_1 x4_1).f2⟩ : S53) ) (fun _ hk => hk))); (try (have hx21_1 := hcc21 1 _ rfl)); (try (try simp only [show (k53).sz = 3 from rfl, Nat.mul_one, Nat.add_zero] at hx21_1)); (try (have hf21_1 := hfr21 1)); (try (try simp only [show (k53).sz = 3 from rfl, Nat.mul_one, Nat.add_zero] at hf21_1)); (try (clear hcl21 hcc21 hfr21 hM21)))); refine store_event (t := 3) (p := 52) (v := ?vo_w22) (w1 := (wr.setCell ⟨go17, (x4_1 : Int).toNat * 3 + 1, none⟩ (.int .i64 (wrap64 (((rd_T53 x3_1 x4_1).f1) + 1))))) ?hg ?ho ?hn ?hr ?_; (case ho => rfl); (case hg => rfl); (case hn => rfl); (case hr => first | (go_simp; done) | (go_simp; rfl)); intro w22 hw; have hg : wr.grownBy w22 (some go17) := (by rw [hw]; exact HP21.2); have hp_ : Kd.R k53 53 w22 w.heap.size (fun _ => True) (.slice (some ⟨go17, 0, none⟩) x3_1.length co18) y190 := (by rw [hw, Ny190.out]; exact HP21.1); clear HP21; replace BK178 := uD (blk_grown (g := gb178) (o := .cells #[.int .i64 a0_0, .int .i64 a0_1, .bool a0_2, .slice A0_3 l0_3.length c0_3] 29 (0, 0)) (pk BK178) hg (Kd.R_ne HO_3.out BK178.out (by decide))); replace BK179 := uD (blk_grown (g := gb179) (o := .cells #[.int .i64 0, .int .i64 0, .bool false, .slice none 0 0] 29 (0, 0)) (pk BK179) hg (Kd.R_ne HO_3.out BK179.out (by decide))); replace HO_3 := uD (hp_); replace HB := uD ((by rw [hw]; exact uM (HB.out) GB17.out : Below w.heap.size w w22)); clear hg hw hp_)))
          go_roundg k1
          case measure => have := HK1.out; omega
          case rel => exact ⟨(y190), (wrap64 (x4_1 + 1)), (by first | rfl | (simp; done) | (simp [*]; done)), H', ⟨by have := HK1.out; omega⟩, ⟨by (with_reducible repeat (first | apply uU | apply uS | apply uT)); exact HO_3.out⟩, ⟨by (with_reducible repeat (first | refine uH ?_ _ | refine uJ ?_ | refine uG ?_ _)); exact BK178.out⟩, ⟨by (with_reducible repeat (first | refine uH ?_ _ | refine uJ ?_ | refine uG ?_ _)); exact BK179.out⟩, ⟨pb HB⟩⟩
         ·rw [if_neg c16] at H
          have c16b0 : decide (((rd_T53 x3_1 x4_1).f1) < (wrap64 ((wrap64 (((rd_T53 x3_1 (ji12)).f1) - ((rd_T53 x3_1 (ji12)).f2))) - a0_1))) = false := decide_eq_false c16
          clear c16
          have H' := uD H
          clear H
          obtain ⟨Ao23, co23, eo23⟩ := Kd.R_slice HO_3.out
          subst eo23
          have hnb24 := NB178_179.out
          have hnc24 := NB179_178.out
          obtain ⟨hcz25_0, hcz25_1, hcz25_2, hcz25_3, hfz25_0, hfz25_1, hfz25_2, hfz25_3⟩ := cz4 BK178
          have p186 : 0 ≤ ((ji12) : Int) := of_decide_eq_true (by first | (with_reducible assumption) | assumption)
          have q186 : (ji12) < (x3_1.length : Int) := of_decide_eq_true (by first | (with_reducible assumption) | assumption)
          obtain ⟨ad186, e186, hx186_0, hx186_1, hx186_2⟩ := at_T53 (Kd.R_reads' HO_3.out).2.2 (ji12) p186 q186
          cases e186
          replace p186 := eq_true p186
          replace q186 := eq_true q186
          have p187 : 0 ≤ ((ji12) : Int) := of_decide_eq_true (by first | (with_reducible assumption) | assumption)
          have q187 : (ji12) < (x3_1.length : Int) := of_decide_eq_true (by first | (with_reducible assumption) | assumption)
          obtain ⟨ad187, e187, hx187_0, hx187_1, hx187_2⟩ := at_T53 (Kd.R_reads' HO_3.out).2.2 (ji12) p187 q187
          obtain rfl : ad186 = ad187 := (by injection e187)
          replace p187 := eq_true p187
          replace q187 := eq_true q187
          have p188 : 0 ≤ (x4_1 : Int) := of_decide_eq_true (by first | (with_reducible assumption) | assumption)
          have q188 : x4_1 < (x3_1.length : Int) := of_decide_eq_true (by first | (with_reducible assumption) | assumption)
          obtain ⟨ad188, e188, hx188_0, hx188_1, hx188_2⟩ := at_T53 (Kd.R_reads' HO_3.out).2.2 x4_1 p188 q188
          obtain rfl : ad186 = ad188 := (by injection e188)
          replace p188 := eq_true p188
          replace q188 := eq_true q188
          go_wp2
          repeat (go_quiet (fail); try go_wp2)
          go_roundg k1
          case measure => have := HK1.out; omega
          case rel => exact ⟨(x3_1), (wrap64 (x4_1 + 1)), (by first | rfl | (simp; done) | (simp [*]; done)), H', ⟨by have := HK1.out; omega⟩, ⟨by (with_reducible repeat (first | apply uU | apply uS | apply uT)); exact HO_3.out⟩, ⟨by (with_reducible repeat (first | refine uH ?_ _ | refine uJ ?_ | refine uG ?_ _)); exact BK178.out⟩, ⟨by (with_reducible repeat (first | refine uH ?_ _ | refine uJ ?_ | refine uG ?_ _)); exact BK179.out⟩, ⟨pb HB⟩⟩
        ·rw [if_neg c15] at H
         exact absurd H (by simp)
       ·rw [if_neg c14] at H
        exact absurd H (by simp)
      ·rw [if_neg c13] at H
       exact absurd H (by simp)
     ·rw [if_neg c11] at H
      have c11b0 : decide (0 < x4_1) = false := decide_eq_false c11
      clear c11
      by_cases c26 : 0 ≤ x4_1
      ·rw [if_pos c26] at H
       have c26b0 : decide (0 ≤ x4_1) = true := decide_eq_true c26
       clear c26
       by_cases c27 : ((rd_T53 x3_1 x4_1).f1) < a0_0
       ·rw [if_pos c27] at H
        have c27b0 : decide (((rd_T53 x3_1 x4_1).f1) < a0_0) = true := decide_eq_true c27
        clear c27
        obtain ⟨y193, hy193⟩ : ∃ y_ : List (S53), y_ = (x3_1.set (x4_1 : Int).toNat (⟨(rd_T53 x3_1 x4_1).f0, wrap64 (((rd_T53 x3_1 x4_1).f1) + 1), (rd_T53 x3_1 x4_1).f2⟩ : S53)) := ⟨_, rfl⟩
        replace H : (spec_l02Step.l0 k1 y193 (wrap64 (x4_1 + 1)) a0_0 a0_1 a0_2 l0_3) = some (r1, r2, r3, r4) := by first | (rw [hy193]; with_reducible exact H) | (have H2_ := (Option.bind_some _ _).symm.trans H; rw [hy193]; with_reducible exact H2_) | (have H2_ := (Option.bind_some _ _).symm.trans H; with_reducible exact H2_) | with_reducible exact H | (rw [hy193]; exact H) | exact H
        have Ny193 := uD hy193
        clear hy193
        have H' := uD H
        clear H
        obtain ⟨Ao29, co29, eo29⟩ := Kd.R_slice HO_3.out
        subst eo29
        have hnb30 := NB178_179.out
        have hnc30 := NB179_178.out
        obtain ⟨hcz31_0, hcz31_1, hcz31_2, hcz31_3, hfz31_0, hfz31_1, hfz31_2, hfz31_3⟩ := cz4 BK178
        have p191 : 0 ≤ (x4_1 : Int) := of_decide_eq_true (by first | (with_reducible assumption) | assumption)
        have q191 : x4_1 < (x3_1.length : Int) := of_decide_eq_true (by first | (with_reducible assumption) | assumption)
        obtain ⟨ad191, e191, hx191_0, hx191_1, hx191_2⟩ := at_T53 (Kd.R_reads' HO_3.out).2.2 x4_1 p191 q191
        cases e191
        replace p191 := eq_true p191
        replace q191 := eq_true q191
        have p192 : 0 ≤ (x4_1 : Int) := of_decide_eq_true (by first | (with_reducible assumption) | assumption)
        have q192 : x4_1 < (x3_1.length : Int) := of_decide_eq_true (by first | (with_reducible assumption) | assumption)
        obtain ⟨ad192, e192, hx192_0, hx192_1, hx192_2⟩ := at_T53 (Kd.R_reads' HO_3.out).2.2 x4_1 p192 q192
        obtain rfl : ad191 = ad192 := (by injection e192)
        replace p192 := eq_true p192
        replace q192 := eq_true q192
        have p28 : 0 ≤ (x4_1 : Int) := of_decide_eq_true (by first | (with_reducible assumption) | assumption)
        have q28 : (x4_1 : Int) < ((x3_1.length : Int) : Int) := of_decide_eq_true (by first | (with_reducible assumption) | assumption)
        obtain ⟨go28, co28, eo28, gb28, gl28, cl28, HG28⟩ := Kd.R_form HO_3.out (by omega)
        (first | cases eo28 | (injection eo28 with ea_ en_ ec_; (first | subst ea_ | (injection ea_ with ea_; subst ea_)); subst ec_; clear en_))
        have GB28 := uD gb28
        have GG28 := uD HG28
        clear gb28 gl28 HG28
        (first | simp only [add_plain] at hx191_0 | skip)
        (first | simp only [add_plain] at hx191_1 | skip)
        (first | simp only [add_plain] at hx191_2 | skip)
        (first | simp only [add_plain] at hx192_0 | skip)
        (first | simp only [add_plain] at hx192_1 | skip)
        (first | simp only [add_plain] at hx192_2 | skip)
        obtain ⟨ce28, hcl28, hM28, hcc28, hfr28⟩ := Kd.R_elem HO_3.out z53 (x4_1 : Int) p28 q28
        obtain rfl := k53_openM hM28
        have hx28_0 : wr.cell? ⟨go28, (x4_1 : Int).toNat * 3, none⟩ = some (.int .i64 ((rd_T53 x3_1 x4_1).f0)) := hcc28 0 _ rfl
        have hx28_1 : wr.cell? ⟨go28, (x4_1 : Int).toNat * 3 + 1, none⟩ = some (.int .i64 ((rd_T53 x3_1 x4_1).f1)) := hcc28 1 _ rfl
        have hx28_2 : wr.cell? ⟨go28, (x4_1 : Int).toNat * 3 + 2, none⟩ = some (.int .i64 ((rd_T53 x3_1 x4_1).f2)) := hcc28 2 _ rfl
        have hf28_0 : wr.frozen? ⟨go28, (x4_1 : Int).toNat * 3, none⟩ = false := hfr28 0
        have hf28_1 : wr.frozen? ⟨go28, (x4_1 : Int).toNat * 3 + 1, none⟩ = false := hfr28 1
        have hf28_2 : wr.frozen? ⟨go28, (x4_1 : Int).toNat * 3 + 2, none⟩ = false := hfr28 2
        clear hcl28 hcc28 hfr28 hM28
        replace p28 := eq_true p28
        replace q28 := eq_true q28
        have HX32 := uD (show Kd.R k53 53 wr w.heap.size (fun _ => True) (.slice (some ⟨go28, 0, none⟩) x3_1.length co29) x3_1 from (pr HO_3))
        obtain ⟨ce32, hcl32, hM32, hcc32, hfr32⟩ := Kd.R_elem HX32.out z53 (x4_1 : Int) (of_decide_eq_true (by first | (with_reducible assumption) | assumption)) (by have h_ : (x4_1 : Int) < ((x3_1.length : Int) : Int) := of_decide_eq_true (by first | (with_reducible assumption) | assumption); first | exact h_ | (have e_ := (Kd.R_reads' HO_3.out).1; omega) | simpa using h_)
        obtain rfl := k53_openM hM32
        have HP32 := Kd.R_seg HX32.out (x4_1 : Int) (of_decide_eq_true (by first | (with_reducible assumption) | assumption)) (by have h_ : (x4_1 : Int) < ((x3_1.length : Int) : Int) := of_decide_eq_true (by first | (with_reducible assumption) | assumption); first | exact h_ | (have e_ := (Kd.R_reads' HO_3.out).1; omega) | simpa using h_) (seg := [.int .i64 (wrap64 (((rd_T53 x3_1 x4_1).f1) + 1))]) (j := 1) hcl32 hcc32 (show 2 ≤ 3 from by decide) (x' := (⟨(rd_T53 x3_1 x4_1).f0, wrap64 (((rd_T53 x3_1 x4_1).f1) + 1), (rd_T53 x3_1 x4_1).f2⟩ : S53)) (k53_mkM _ _ _ (⟨(rd_T53 x3_1 x4_1).f0, wrap64 (((rd_T53 x3_1 x4_1).f1) + 1), (rd_T53 x3_1 x4_1).f2⟩ : S53) ) (fun _ hk => hk)
        have hx32_1 := hcc32 1 _ rfl
        (try simp only [show (k53).sz = 3 from rfl, Nat.mul_one, Nat.add_zero] at hx32_1)
        have hf32_1 := hfr32 1
        (try simp only [show (k53).sz = 3 from rfl, Nat.mul_one, Nat.add_zero] at hf32_1)
        clear hcl32 hcc32 hfr32 hM32
        go_wp2_with (first | ((with_reducible refine gate_store (t := 3) (p := 52) rfl ?_); (try (rw [drewN_self wr]; generalize hq_ : World.drewN wr _ = wr; have n0_ := uD (Kd.R_at hq_ HO_3.out); have n1_ := uD (blk_at hq_ BK178.out); have n2_ := uD (blk_at hq_ BK179.out); have n3_ := uD (below_at hq_ HB.out); clear hq_ HO_3 BK178 BK179 HB; have HO_3 := n0_; have BK178 := n1_; have BK179 := n2_; have HB := n3_; clear n0_ n1_ n2_ n3_; (try (have HX32 := uD (show Kd.R k53 53 wr w.heap.size (fun _ => True) (.slice (some ⟨go28, 0, none⟩) x3_1.length co29) x3_1 from (pr HO_3)))); (try (obtain ⟨ce32, hcl32, hM32, hcc32, hfr32⟩ := Kd.R_elem HX32.out z53 (x4_1 : Int) (of_decide_eq_true (by first | (with_reducible assumption) | assumption)) (by have h_ : (x4_1 : Int) < ((x3_1.length : Int) : Int) := of_decide_eq_true (by first | (with_reducible assumption) | assumption); first | exact h_ | (have e_ := (Kd.R_reads' HO_3.out).1; omega) | simpa using h_))); (try (obtain rfl := k53_openM hM32)); (try (have HP32 := Kd.R_seg HX32.out (x4_1 : Int) (of_decide_eq_true (by first | (with_reducible assumption) | assumption)) (by have h_ : (x4_1 : Int) < ((x3_1.length : Int) : Int) := of_decide_eq_true (by first | (with_reducible assumption) | assumption); first | exact h_ | (have e_ := (Kd.R_reads' HO_3.out).1; omega) | simpa using h_) (seg := [.int .i64 (wrap64 (((rd_T53 x3_1 x4_1).f1) + 1))]) (j := 1) hcl32 hcc32 (show 2 ≤ 3 from by decide) (x' := (⟨(rd_T53 x3_1 x4_1).f0, wrap64 (((rd_T53 x3_1 x4_1).f1) + 1), (rd_T53 x3_1 x4_1).f2⟩ : S53)) (k53_mkM _ _ _ (⟨(rd_T53 x3_1 x4_1).f0, wrap64 (((rd_T53 x3_1 x4_1).f1) + 1), (rd_T53 x3_1 x4_1).f2⟩ : S53) ) (fun _ hk => hk))); (try (have hx32_1 := hcc32 1 _ rfl)); (try (try simp only [show (k53).sz = 3 from rfl, Nat.mul_one, Nat.add_zero] at hx32_1)); (try (have hf32_1 := hfr32 1)); (try (try simp only [show (k53).sz = 3 from rfl, Nat.mul_one, Nat.add_zero] at hf32_1)); (try (clear hcl32 hcc32 hfr32 hM32)))); refine store_event (t := 3) (p := 52) (v := ?vo_w33) (w1 := (wr.setCell ⟨go28, (x4_1 : Int).toNat * 3 + 1, none⟩ (.int .i64 (wrap64 (((rd_T53 x3_1 x4_1).f1) + 1))))) ?hg ?ho ?hn ?hr ?_; (case ho => rfl); (case hg => rfl); (case hn => rfl); (case hr => first | (go_simp; done) | (go_simp; rfl)); intro w33 hw; have hg : wr.grownBy w33 (some go28) := (by rw [hw]; exact HP32.2); have hp_ : Kd.R k53 53 w33 w.heap.size (fun _ => True) (.slice (some ⟨go28, 0, none⟩) x3_1.length co29) y193 := (by rw [hw, Ny193.out]; exact HP32.1); clear HP32; replace BK178 := uD (blk_grown (g := gb178) (o := .cells #[.int .i64 a0_0, .int .i64 a0_1, .bool a0_2, .slice A0_3 l0_3.length c0_3] 29 (0, 0)) (pk BK178) hg (Kd.R_ne HO_3.out BK178.out (by decide))); replace BK179 := uD (blk_grown (g := gb179) (o := .cells #[.int .i64 0, .int .i64 0, .bool false, .slice none 0 0] 29 (0, 0)) (pk BK179) hg (Kd.R_ne HO_3.out BK179.out (by decide))); replace HO_3 := uD (hp_); replace HB := uD ((by rw [hw]; exact uM (HB.out) GB28.out : Below w.heap.size w w33)); clear hg hw hp_))
        repeat (go_quiet (first | ((with_reducible refine gate_store (t := 3) (p := 52) rfl ?_); (try (rw [drewN_self wr]; generalize hq_ : World.drewN wr _ = wr; have n0_ := uD (Kd.R_at hq_ HO_3.out); have n1_ := uD (blk_at hq_ BK178.out); have n2_ := uD (blk_at hq_ BK179.out); have n3_ := uD (below_at hq_ HB.out); clear hq_ HO_3 BK178 BK179 HB; have HO_3 := n0_; have BK178 := n1_; have BK179 := n2_; have HB := n3_; clear n0_ n1_ n2_ n3_; (try (have HX32 := uD (show Kd.R k53 53 wr w.heap.size (fun _ => True) (.slice (some ⟨go28, 0, none⟩) x3_1.length co29) x3_1 from (pr HO_3)))); (try (obtain ⟨ce32, hcl32, hM32, hcc32, hfr32⟩ := Kd.R_elem HX32.out z53 (x4_1 : Int) (of_decide_eq_true (by first | (with_reducible assumption) | assumption)) (by have h_ : (x4_1 : Int) < ((x3_1.length : Int) : Int) := of_decide_eq_true (by first | (with_reducible assumption) | assumption); first | exact h_ | (have e_ := (Kd.R_reads' HO_3.out).1; omega) | simpa using h_))); (try (obtain rfl := k53_openM hM32)); (try (have HP32 := Kd.R_seg HX32.out (x4_1 : Int) (of_decide_eq_true (by first | (with_reducible assumption) | assumption)) (by have h_ : (x4_1 : Int) < ((x3_1.length : Int) : Int) := of_decide_eq_true (by first | (with_reducible assumption) | assumption); first | exact h_ | (have e_ := (Kd.R_reads' HO_3.out).1; omega) | simpa using h_) (seg := [.int .i64 (wrap64 (((rd_T53 x3_1 x4_1).f1) + 1))]) (j := 1) hcl32 hcc32 (show 2 ≤ 3 from by decide) (x' := (⟨(rd_T53 x3_1 x4_1).f0, wrap64 (((rd_T53 x3_1 x4_1).f1) + 1), (rd_T53 x3_1 x4_1).f2⟩ : S53)) (k53_mkM _ _ _ (⟨(rd_T53 x3_1 x4_1).f0, wrap64 (((rd_T53 x3_1 x4_1).f1) + 1), (rd_T53 x3_1 x4_1).f2⟩ : S53) ) (fun _ hk => hk))); (try (have hx32_1 := hcc32 1 _ rfl)); (try (try simp only [show (k53).sz = 3 from rfl, Nat.mul_one, Nat.add_zero] at hx32_1)); (try (have hf32_1 := hfr32 1)); (try (try simp only [show (k53).sz = 3 from rfl, Nat.mul_one, Nat.add_zero] at hf32_1)); (try (clear hcl32 hcc32 hfr32 hM32)))); refine store_event (t := 3) (p := 52) (v := ?vo_w33) (w1 := (wr.setCell ⟨go28, (x4_1 : Int).toNat * 3 + 1, none⟩ (.int .i64 (wrap64 (((rd_T53 x3_1 x4_1).f1) + 1))))) ?hg ?ho ?hn ?hr ?_; (case ho => rfl); (case hg => rfl); (case hn => rfl); (case hr => first | (go_simp; done) | (go_simp; rfl)); intro w33 hw; have hg : wr.grownBy w33 (some go28) := (by rw [hw]; exact HP32.2); have hp_ : Kd.R k53 53 w33 w.heap.size (fun _ => True) (.slice (some ⟨go28, 0, none⟩) x3_1.length co29) y193 := (by rw [hw, Ny193.out]; exact HP32.1); clear HP32; replace BK178 := uD (blk_grown (g := gb178) (o := .cells #[.int .i64 a0_0, .int .i64 a0_1, .bool a0_2, .slice A0_3 l0_3.length c0_3] 29 (0, 0)) (pk BK178) hg (Kd.R_ne HO_3.out BK178.out (by decide))); replace BK179 := uD (blk_grown (g := gb179) (o := .cells #[.int .i64 0, .int .i64 0, .bool false, .slice none 0 0] 29 (0, 0)) (pk BK179) hg (Kd.R_ne HO_3.out BK179.out (by decide))); replace HO_3 := uD (hp_); replace HB := uD ((by rw [hw]; exact uM (HB.out) GB28.out : Below w.heap.size w w33)); clear hg hw hp_)); try go_wp2_with (first | ((with_reducible refine gate_store (t := 3) (p := 52) rfl ?_); (try (rw [drewN_self wr]; generalize hq_ : World.drewN wr _ = wr; have n0_ := uD (Kd.R_at hq_ HO_3.out); have n1_ := uD (blk_at hq_ BK178.out); have n2_ := uD (blk_at hq_ BK179.out); have n3_ := uD (below_at hq_ HB.out); clear hq_ HO_3 BK178 BK179 HB; have HO_3 := n0_; have BK178 := n1_; have BK179 := n2_; have HB := n3_; clear n0_ n1_ n2_ n3_; (try (have HX32 := uD (show Kd.R k53 53 wr w.heap.size (fun _ => True) (.slice (some ⟨go28, 0, none⟩) x3_1.length co29) x3_1 from (pr HO_3)))); (try (obtain ⟨ce32, hcl32, hM32, hcc32, hfr32⟩ := Kd.R_elem HX32.out z53 (x4_1 : Int) (of_decide_eq_true (by first | (with_reducible assumption) | assumption)) (by have h_ : (x4_1 : Int) < ((x3_1.length : Int) : Int) := of_decide_eq_true (by first | (with_reducible assumption) | assumption); first | exact h_ | (have e_ := (Kd.R_reads' HO_3.out).1; omega) | simpa using h_))); (try (obtain rfl := k53_openM hM32)); (try (have HP32 := Kd.R_seg HX32.out (x4_1 : Int) (of_decide_eq_true (by first | (with_reducible assumption) | assumption)) (by have h_ : (x4_1 : Int) < ((x3_1.length : Int) : Int) := of_decide_eq_true (by first | (with_reducible assumption) | assumption); first | exact h_ | (have e_ := (Kd.R_reads' HO_3.out).1; omega) | simpa using h_) (seg := [.int .i64 (wrap64 (((rd_T53 x3_1 x4_1).f1) + 1))]) (j := 1) hcl32 hcc32 (show 2 ≤ 3 from by decide) (x' := (⟨(rd_T53 x3_1 x4_1).f0, wrap64 (((rd_T53 x3_1 x4_1).f1) + 1), (rd_T53 x3_1 x4_1).f2⟩ : S53)) (k53_mkM _ _ _ (⟨(rd_T53 x3_1 x4_1).f0, wrap64 (((rd_T53 x3_1 x4_1).f1) + 1), (rd_T53 x3_1 x4_1).f2⟩ : S53) ) (fun _ hk => hk))); (try (have hx32_1 := hcc32 1 _ rfl)); (try (try simp only [show (k53).sz = 3 from rfl, Nat.mul_one, Nat.add_zero] at hx32_1)); (try (have hf32_1 := hfr32 1)); (try (try simp only [show (k53).sz = 3 from rfl, Nat.mul_one, Nat.add_zero] at hf32_1)); (try (clear hcl32 hcc32 hfr32 hM32)))); refine store_event (t := 3) (p := 52) (v := ?vo_w33) (w1 := (wr.setCell ⟨go28, (x4_1 : Int).toNat * 3 + 1, none⟩ (.int .i64 (wrap64 (((rd_T53 x3_1 x4_1).f1) + 1))))) ?hg ?ho ?hn ?hr ?_; (case ho => rfl); (case hg => rfl); (case hn => rfl); (case hr => first | (go_simp; done) | (go_simp; rfl)); intro w33 hw; have hg : wr.grownBy w33 (some go28) := (by rw [hw]; exact HP32.2); have hp_ : Kd.R k53 53 w33 w.heap.size (fun _ => True) (.slice (some ⟨go28, 0, none⟩) x3_1.length co29) y193 := (by rw [hw, Ny193.out]; exact HP32.1); clear HP32; replace BK178 := uD (blk_grown (g := gb178) (o := .cells #[.int .i64 a0_0, .int .i64 a0_1, .bool a0_2, .slice A0_3 l0_3.length c0_3] 29 (0, 0)) (pk BK178) hg (Kd.R_ne HO_3.out BK178.out (by decide))); replace BK179 := uD (blk_grown (g := gb179) (o := .cells #[.int .i64 0, .int .i64 0, .bool false, .slice none 0 0] 29 (0, 0)) (pk BK179) hg (Kd.R_ne HO_3.out BK179.out (by decide))); replace HO_3 := uD (hp_); replace HB := uD ((by rw [hw]; exact uM (HB.out) GB28.out : Below w.heap.size w w33)); clear hg hw hp_)))
        go_roundg k1
        case measure => have := HK1.out; omega
        case rel => exact ⟨(y193), (wrap64 (x4_1 + 1)), (by first | rfl | (simp; done) | (simp [*]; done)), H', ⟨by have := HK1.out; omega⟩, ⟨by (with_reducible repeat (first | apply uU | apply uS | apply uT)); exact HO_3.out⟩, ⟨by (with_reducible repeat (first | refine uH ?_ _ | refine uJ ?_ | refine uG ?_ _)); exact BK178.out⟩, ⟨by (with_reducible repeat (first | refine uH ?_ _ | refine uJ ?_ | refine uG ?_ _)); exact BK179.out⟩, ⟨pb HB⟩⟩
       ·rw [if_neg c27] at H
        have c27b0 : decide (((rd_T53 x3_1 x4_1).f1) < a0_0) = false := decide_eq_false c27
        clear c27
        have H' := uD H
        clear H
        obtain ⟨Ao34, co34, eo34⟩ := Kd.R_slice HO_3.out
        subst eo34
        have hnb35 := NB178_179.out
        have hnc35 := NB179_178.out
        obtain ⟨hcz36_0, hcz36_1, hcz36_2, hcz36_3, hfz36_0, hfz36_1, hfz36_2, hfz36_3⟩ := cz4 BK178
        have p191 : 0 ≤ (x4_1 : Int) := of_decide_eq_true (by first | (with_reducible assumption) | assumption)
        have q191 : x4_1 < (x3_1.length : Int) := of_decide_eq_true (by first | (with_reducible assumption) | assumption)
        obtain ⟨ad191, e191, hx191_0, hx191_1, hx191_2⟩ := at_T53 (Kd.R_reads' HO_3.out).2.2 x4_1 p191 q191
        cases e191
        replace p191 := eq_true p191
        replace q191 := eq_true q191
        go_wp2
        repeat (go_quiet (fail); try go_wp2)
        go_roundg k1
        case measure => have := HK1.out; omega
        case rel => exact ⟨(x3_1), (wrap64 (x4_1 + 1)), (by first | rfl | (simp; done) | (simp [*]; done)), H', ⟨by have := HK1.out; omega⟩, ⟨by (with_reducible repeat (first | apply uU | apply uS | apply uT)); exact HO_3.out⟩, ⟨by (with_reducible repeat (first | refine uH ?_ _ | refine uJ ?_ | refine uG ?_ _)); exact BK178.out⟩, ⟨by (with_reducible repeat (first | refine uH ?_ _ | refine uJ ?_ | refine uG ?_ _)); exact BK179.out⟩, ⟨pb HB⟩⟩
      ·rw [if_neg c26] at H
       exact absurd H (by simp)
    ·rw [if_neg c10] at H
     have c10b0 : decide (x4_1 < (x3_1.length : Int)) = false := decide_eq_false c10
     clear c10
     simp only [Option.some.injEq, Prod.mk.injEq] at H
     obtain ⟨rfl, rfl, rfl, rfl⟩ := H
     obtain ⟨Ao37, co37, eo37⟩ := Kd.R_slice HO_3.out
     subst eo37
     have hnb38 := NB178_179.out
     have hnc38 := NB179_178.out
     obtain ⟨hcz39_0, hcz39_1, hcz39_2, hcz39_3, hfz39_0, hfz39_1, hfz39_2, hfz39_3⟩ := cz4 BK178
     obtain ⟨hcz40_0, hcz40_1, hcz40_2, hcz40_3, hfz40_0, hfz40_1, hfz40_2, hfz40_3⟩ := cz4 BK179
     go_wp2
     repeat (go_quiet (fail); try go_wp2)
     refine bodyPost_ret (results_cell_row rfl _ _ gb179 29 #[.int .i64 a0_0, .int .i64 a0_1, .bool a0_2, .slice Ao37 x3_1.length co37] (0, 0) _ rfl (by (with_reducible repeat (first | refine uH ?_ _ | refine uJ ?_ | refine uG ?_ _)); refine uP (cs := #[.int .i64 a0_0, .int .i64 a0_1, .bool a0_2, .slice none 0 0]) ?_ 3 _ rfl; (with_reducible repeat (first | refine uH ?_ _ | refine uJ ?_ | refine uG ?_ _)); refine uP (cs := #[.int .i64 a0_0, .int .i64 a0_1, .bool false, .slice none 0 0]) ?_ 2 _ rfl; (with_reducible repeat (first | refine uH ?_ _ | refine uJ ?_ | refine uG ?_ _)); refine uP (cs := #[.int .i64 a0_0, .int .i64 0, .bool false, .slice none 0 0]) ?_ 1 _ rfl; (with_reducible repeat (first | refine uH ?_ _ | refine uJ ?_ | refine uG ?_ _)); refine uP (cs := #[.int .i64 0, .int .i64 0, .bool false, .slice none 0 0]) ?_ 0 _ rfl; (with_reducible repeat (first | refine uH ?_ _ | refine uJ ?_ | refine uG ?_ _)); refine uQ ?_ NB179_178.out _; (with_reducible repeat (first | refine uH ?_ _ | refine uJ ?_ | refine uG ?_ _)); exact BK179.out) Try.underlying29 rfl (by kernel_rfl)) rfl ?_
     exact ⟨_, by first | rfl | (simp [errW_none, errW_some] <;> rfl) | (simp [*, errW_none, errW_some] <;> rfl), by (with_reducible repeat (first | apply uU | apply uS | apply uT)); exact uX (uV (p := ⟨gb179, 3, none⟩) (uV (p := ⟨gb179, 2, none⟩) (uV (p := ⟨gb179, 1, none⟩) (uV (p := ⟨gb179, 0, none⟩) (uV (p := ⟨gb178, 3, none⟩) (uW (uW HO_3.out BK178.out (by decide)) BK179.out (by decide)) (fun _ hk => hk.1.2) (.slice Ao37 x3_1.length co37)) (fun _ hk => hk.2) (.int .i64 a0_0)) (fun _ hk => hk.2) (.int .i64 a0_1)) (fun _ hk => hk.2) (.bool a0_2)) (fun _ hk => hk.2) (.slice Ao37 x3_1.length co37)) (fun _ hk => trivial), pb HB⟩
 ·rw [if_neg c2] at H
  exact absurd H (by simp)

/-! ### spec_Run: function 34 -/
mutual
def spec_Run.j0 : Nat → Int → List (S56) → Bool → Int → Int → Bool → List (S53) → Option (Int × Int × Bool × (List (S53)) × (List (S56)))
 | 0, _, _, _, _, _, _, _ => none
 | k + 1, x1, x6, x21, x195000, x195001, x195002, x195003 => if x21 = true then (some (x195000, x195001, x195002, x195003, x6)) else (spec_Run.l0 k x1 x6 0 x195000 x195001 x195002 x195003)
def spec_Run.l0 : Nat → Int → List (S56) → Int → Int → Int → Bool → List (S53) → Option (Int × Int × Bool × (List (S53)) × (List (S56)))
 | 0, _, _, _, _, _, _, _ => none
 | k + 1, x1, x6, x7, x195000, x195001, x195002, x195003 => if x7 < x1 then ((spec_Leave.f k x195000 x195001 x195002 x195003).bind fun bt207 => (if bt207.2.2.2.2.2 = true then (if x6.length < 8796093022208 then ((spec_l02Step.f k bt207.1 bt207.2.1 bt207.2.2.1 bt207.2.2.2.1).bind fun bt219 => (spec_Run.l0 k x1 (x6 ++ [(⟨bt207.2.2.2.2.1, x7⟩ : S56)]) (wrap64 (x7 + 1)) bt219.1 bt219.2.1 bt219.2.2.1 bt219.2.2.2)) else (none)) else ((spec_l02Step.f k bt207.1 bt207.2.1 bt207.2.2.1 bt207.2.2.2.1).bind fun bt225 => (spec_Run.l0 k x1 x6 (wrap64 (x7 + 1)) bt225.1 bt225.2.1 bt225.2.2.1 bt225.2.2.2)))) else (some (x195000, x195001, x195002, x195003, x6))
end
def spec_Run.f (k : Nat) (a0_0 : Int) (a0_1 : Int) (a0_2 : Bool) (l0_3 : List (S53)) (a1 : Int) : Option (Int × Int × Bool × (List (S53)) × (List (S56))) := (spec_l02Fresh.f a0_0 a0_1 a0_2 l0_3).bind fun bt196 => ((some (([] : List (S56)) : List (S56))).bind fun y202 => ((spec_BeltOk.f k bt196.1 bt196.2.1 bt196.2.2.1 bt196.2.2.2).bind fun t205 => (if t205 = true then ((spec_l01In.f a1 0 2000).bind fun t206 => (spec_Run.j0 k a1 y202 (!t206) bt196.1 bt196.2.1 bt196.2.2.1 bt196.2.2.2)) else (spec_Run.j0 k a1 y202 true bt196.1 bt196.2.1 bt196.2.2.1 bt196.2.2.2))))
theorem spec_Run.mono_l : ∀ k, (∀ y0 y1 y2 y3 y4 y5 y6, LeO (spec_Run.j0 k y0 y1 y2 y3 y4 y5 y6) (spec_Run.j0 (k + 1) y0 y1 y2 y3 y4 y5 y6)) ∧ (∀ y0 y1 y2 y3 y4 y5 y6, LeO (spec_Run.l0 k y0 y1 y2 y3 y4 y5 y6) (spec_Run.l0 (k + 1) y0 y1 y2 y3 y4 y5 y6))
 | 0 => ⟨fun _ _ _ _ _ _ _ r h => by simp [spec_Run.j0] at h, fun _ _ _ _ _ _ _ r h => by simp [spec_Run.l0] at h⟩
 | k + 1 => by
  obtain ⟨ih0, ih1⟩ := spec_Run.mono_l k
  refine ⟨?_, ?_⟩
  ·intro y0 y1 y2 y3 y4 y5 y6
   unfold spec_Run.j0
   repeat' first
   | (with_reducible exact ih0 _ _ _ _ _ _ _)
   | (with_reducible exact ih1 _ _ _ _ _ _ _)
   | (with_reducible exact spec_BeltOk.mono _ _ _ _ _)
   | (with_reducible exact spec_Leave.mono _ _ _ _ _)
   | (with_reducible exact spec_l02Step.mono _ _ _ _ _)
   | (with_reducible exact LeO.refl _)
   | (with_reducible exact LeO.none _)
   | (with_reducible refine LeO.ite ?_ ?_)
   | (with_reducible refine LeO.bind ?_ (fun _ => ?_))
   | exact ih0 _ _ _ _ _ _ _
   | exact ih1 _ _ _ _ _ _ _
   | exact spec_BeltOk.mono _ _ _ _ _
   | exact spec_Leave.mono _ _ _ _ _
   | exact spec_l02Step.mono _ _ _ _ _
   | exact LeO.none _
   | refine LeO.ite ?_ ?_
   | refine LeO.bind ?_ (fun _ => ?_)
  ·intro y0 y1 y2 y3 y4 y5 y6
   unfold spec_Run.l0
   repeat' first
   | (with_reducible exact ih0 _ _ _ _ _ _ _)
   | (with_reducible exact ih1 _ _ _ _ _ _ _)
   | (with_reducible exact spec_BeltOk.mono _ _ _ _ _)
   | (with_reducible exact spec_Leave.mono _ _ _ _ _)
   | (with_reducible exact spec_l02Step.mono _ _ _ _ _)
   | (with_reducible exact LeO.refl _)
   | (with_reducible exact LeO.none _)
   | (with_reducible refine LeO.ite ?_ ?_)
   | (with_reducible refine LeO.bind ?_ (fun _ => ?_))
   | exact ih0 _ _ _ _ _ _ _
   | exact ih1 _ _ _ _ _ _ _
   | exact spec_BeltOk.mono _ _ _ _ _
   | exact spec_Leave.mono _ _ _ _ _
   | exact spec_l02Step.mono _ _ _ _ _
   | exact LeO.none _
   | refine LeO.ite ?_ ?_
   | refine LeO.bind ?_ (fun _ => ?_)
theorem spec_Run.mono : ∀ a0 a1 a2 a3 a4 k, LeO (spec_Run.f k a0 a1 a2 a3 a4) (spec_Run.f (k + 1) a0 a1 a2 a3 a4) := by
 intro a0 a1 a2 a3 a4 k
 obtain ⟨ih0, ih1⟩ := spec_Run.mono_l k
 unfold spec_Run.f
 repeat' first
   | (with_reducible exact ih0 _ _ _ _ _ _ _)
   | (with_reducible exact ih1 _ _ _ _ _ _ _)
   | (with_reducible exact spec_BeltOk.mono _ _ _ _ _)
   | (with_reducible exact spec_Leave.mono _ _ _ _ _)
   | (with_reducible exact spec_l02Step.mono _ _ _ _ _)
   | (with_reducible exact LeO.refl _)
   | (with_reducible exact LeO.none _)
   | (with_reducible refine LeO.ite ?_ ?_)
   | (with_reducible refine LeO.bind ?_ (fun _ => ?_))
   | exact ih0 _ _ _ _ _ _ _
   | exact ih1 _ _ _ _ _ _ _
   | exact spec_BeltOk.mono _ _ _ _ _
   | exact spec_Leave.mono _ _ _ _ _
   | exact spec_l02Step.mono _ _ _ _ _
   | exact LeO.none _
   | refine LeO.ite ?_ ?_
   | refine LeO.bind ?_ (fun _ => ?_)
set_option maxHeartbeats 8000000 in
set_option maxRecDepth 100000 in
theorem spec_Run.calls (k : Nat) (a0_0 : Int) (a0_1 : Int) (a0_2 : Bool) (A0_3 : Option Addr) (c0_3 : Nat) (l0_3 : List (S53)) (a1 : Int) (r1 : Int) (r2 : Int) (r3 : Bool) (r4 : List (S53)) (r5 : List (S56)) (w : World) (hr0_3 : Kd.C k53 w A0_3 l0_3.length l0_3) (hc0_3 : l0_3.length ≤ c0_3) (h : spec_Run.f k a0_0 a0_1 a0_2 l0_3 a1 = some (r1, r2, r3, r4, r5)) :
  Calls Try.prog 34 #[.agg #[.int .i64 a0_0, .int .i64 a0_1, .bool a0_2, .slice A0_3 l0_3.length c0_3], .int .i64 a1] w fun e w' => ∃ v3_ v4_ : Value, e = .returned (.tuple #[.agg #[.int .i64 r1, .int .i64 r2, .bool r3, v3_], v4_]) ∧ Kd.R k53 53 w' w.heap.size (fun _ => True) v3_ r4 ∧ Kd.R k56 56 w' w.heap.size (fun _ => True) v4_ r5 ∧ Below w.heap.size w w' := by
 have hu29 := Try.underlying29
 have hu56 := Try.underlying56
 have HR0_3 := uD hr0_3
 have HC0_3 := uD hc0_3
 clear hr0_3 hc0_3
 have HB := uD (Below.refl w.heap.size w)
 have H : ((spec_l02Fresh.f a0_0 a0_1 a0_2 l0_3).bind fun bt196 => ((some (([] : List (S56)) : List (S56))).bind fun y202 => ((spec_BeltOk.f k bt196.1 bt196.2.1 bt196.2.2.1 bt196.2.2.2).bind fun t205 => (if t205 = true then ((spec_l01In.f a1 0 2000).bind fun t206 => (spec_Run.j0 k a1 y202 (!t206) bt196.1 bt196.2.1 bt196.2.2.1 bt196.2.2.2)) else (spec_Run.j0 k a1 y202 true bt196.1 bt196.2.1 bt196.2.2.1 bt196.2.2.2))))) = some (r1, r2, r3, r4, r5) := h
 clear h
 replace H := Option.bind_eq_some_iff.mp H
 obtain ⟨⟨t196, t197, t198, t199⟩, A30, H⟩ := H
 replace H : ((some (([] : List (S56)) : List (S56))).bind fun y202 => ((spec_BeltOk.f k t196 t197 t198 t199).bind fun t205 => (if t205 = true then ((spec_l01In.f a1 0 2000).bind fun t206 => (spec_Run.j0 k a1 y202 (!t206) t196 t197 t198 t199)) else (spec_Run.j0 k a1 y202 true t196 t197 t198 t199)))) = some (r1, r2, r3, r4, r5) := H
 have A3 := uD A30
 clear A30
 obtain ⟨y202, hy202⟩ : ∃ y_ : List (S56), y_ = (([] : List (S56))) := ⟨_, rfl⟩
 replace H : ((spec_BeltOk.f k t196 t197 t198 t199).bind fun t205 => (if t205 = true then ((spec_l01In.f a1 0 2000).bind fun t206 => (spec_Run.j0 k a1 y202 (!t206) t196 t197 t198 t199)) else (spec_Run.j0 k a1 y202 true t196 t197 t198 t199))) = some (r1, r2, r3, r4, r5) := by first | (rw [hy202]; with_reducible exact H) | (have H2_ := (Option.bind_some _ _).symm.trans H; rw [hy202]; with_reducible exact H2_) | (have H2_ := (Option.bind_some _ _).symm.trans H; with_reducible exact H2_) | with_reducible exact H | (rw [hy202]; exact H) | exact H
 have Ny202 := uD hy202
 clear hy202
 have HC4 := uD H
 clear H
 go_enter Try.func34, Try.ntmps34
 go_upto_region 3 with (first | ((with_reducible refine gate_dst (N := 2) rfl ?_); refine box_event ?hg (N := 2) ?hd (cs := #[.int .i64 a0_0, .int .i64 a0_1, .bool a0_2, .slice A0_3 l0_3.length c0_3]) (t := 29) ?hr ?_; (case hd => rfl); (case hg => rfl); (case hr => first | (go_simp; done) | (go_simp; rfl)); intro gb194 hg w5 hbox hb; have BK194 := uD (hbox); have GW194 := uD ((by rw [hg]; exact (uN (pb HB)) : w.heap.size ≤ gb194)); have GE194 := uD ((by rw [hg]; exact (uN (pb HB)) : w.heap.size ≤ gb194)); replace HB := uD (uO (pb HB) hb); clear hb hbox hg) | ((with_reducible refine gate_dst (N := 4) rfl ?_); refine box_event ?hg (N := 4) ?hd (cs := #[.int .i64 0, .int .i64 0, .bool false, .slice none 0 0]) (t := 29) ?hr ?_; (case hd => rfl); (case hg => rfl); (case hr => first | (go_simp; done) | (go_simp; rfl)); intro gb195 hg w6 hbox hb; have BK195 := uD (hbox); have GW195 := uD ((by rw [hg]; exact (uN (pb HB)) : w.heap.size ≤ gb195)); have GE195 := uD ((by rw [hg]; exact (uN (pb HB)) : w.heap.size ≤ gb195)); replace HB := uD (uO (pb HB) hb); have NB194_195 := uD ((by rw [hg]; exact Nat.ne_of_lt (blk_lt (g := gb194) (o := .cells #[.int .i64 a0_0, .int .i64 a0_1, .bool a0_2, .slice A0_3 l0_3.length c0_3] 29 (0, 0)) (pk BK194)) : gb194 ≠ gb195)); have NB195_194 := uD ((by rw [hg]; exact Nat.ne_of_gt (blk_lt (g := gb194) (o := .cells #[.int .i64 a0_0, .int .i64 a0_1, .bool a0_2, .slice A0_3 l0_3.length c0_3] 29 (0, 0)) (pk BK194)) : gb195 ≠ gb194)); replace BK194 := uD (blk_below (pk BK194) hb); clear hb hbox hg; have hnb7 := NB194_195.out; have hnc7 := NB195_194.out; obtain ⟨hcz8_0, hcz8_1, hcz8_2, hcz8_3, hfz8_0, hfz8_1, hfz8_2, hfz8_3⟩ := cz4 BK194) | ((with_reducible refine gate_callee (f := 55) rfl ?_); refine goesL_ (some 12) rfl rfl Try.func55 (by kernel_rfl) rfl #[.agg #[.int .i64 a0_0, .int .i64 a0_1, .bool a0_2, .slice A0_3 l0_3.length c0_3]] rfl (by (try simp only [List.map_toArray, List.map_cons, List.map_nil]); first | done | rfl | (simp only [List.length_drop, List.length_take]; rfl)) ?_; (with_reducible refine (spec_l02Fresh.calls a0_0 a0_1 a0_2 _ _ l0_3 t196 t197 t198 t199 _ ?side1 ?side2 A3.out).mono ?_); (case side1 => repeat (first | exact (Kd.C_below HR0_3.out HB.out) | (with_reducible refine Kd.C_alloc ?_ _) | (with_reducible refine Kd.C_drewN ?_ _) | (with_reducible refine Kd.C_drew ?_))); (case side2 => exact HC0_3.out); rintro e w9 ⟨v200, rfl, ho0, hb⟩; refine ⟨_, rfl, ?_⟩; have HO201 := uD (Kd.R_lower ho0 (uN (pb HB))); replace BK194 := uD (blk_below (pk BK194) hb); replace BK195 := uD (blk_below (pk BK195) hb); replace HB := uD (uO (pb HB) hb); (try clear hb); (try clear hb2); (try clear hk); (try clear hi); (try clear ho0); obtain ⟨hcz10_0, hcz10_1, hcz10_2, hcz10_3, hfz10_0, hfz10_1, hfz10_2, hfz10_3⟩ := cz4 BK194; obtain ⟨Ao11, co11, eo11⟩ := Kd.R_slice HO201.out; subst eo11) | ((with_reducible refine gate_dst (N := 13) rfl ?_); refine Kd.R_lit k56 _ 56 ?hg (N := 13) ?hd (xs := ([] : List (S56))) (inner := []) (ok := fun _ => True) (okp := fun _ => True) ?hr ?hp (fun _ hk => hk) trivial (Below.refl _ _) (Nat.le_refl _) (by simp) ?_; (case hd => rfl); (case hg => rfl); (case hr => first | (go_simp; done) | (go_simp; rfl)); (case hp => exact (Reps.none _ _)); intro v203 w12 ho13 hb hg_ hnew_; clear hg_ hnew_; (first | rw [← Ny202.out] at ho13 | (simp only [Int.reduceToNat] at ho13; rw [← Ny202.out] at ho13)); replace HO201 := uD (Kd.R_below (by (with_reducible repeat (first | apply uU | apply uS | apply uT)); exact (uX (uV (p := ⟨gb194, 3, none⟩) (uV (p := ⟨gb194, 2, none⟩) (uV (p := ⟨gb194, 1, none⟩) (uV (p := ⟨gb194, 0, none⟩) (uW HO201.out BK194.out (by decide)) (fun _ hk => hk.2) (.int .i64 t196)) (fun _ hk => hk.2) (.int .i64 t197)) (fun _ hk => hk.2) (.bool t198)) (fun _ hk => hk.2) (.slice Ao11 t199.length co11)) (fun _ h_ => h_.1))) hb); have HO204 := uD (Kd.R_lower ho13 (uN (pb HB))); replace BK194 := uD (blk_below (g := gb194) (o := .cells #[.int .i64 t196, .int .i64 t197, .bool t198, .slice Ao11 t199.length co11] 29 (0, 0)) (by (with_reducible repeat (first | refine uH ?_ _ | refine uJ ?_ | refine uG ?_ _)); refine uP (cs := #[.int .i64 t196, .int .i64 t197, .bool t198, .slice A0_3 l0_3.length c0_3]) ?_ 3 _ rfl; (with_reducible repeat (first | refine uH ?_ _ | refine uJ ?_ | refine uG ?_ _)); refine uP (cs := #[.int .i64 t196, .int .i64 t197, .bool a0_2, .slice A0_3 l0_3.length c0_3]) ?_ 2 _ rfl; (with_reducible repeat (first | refine uH ?_ _ | refine uJ ?_ | refine uG ?_ _)); refine uP (cs := #[.int .i64 t196, .int .i64 a0_1, .bool a0_2, .slice A0_3 l0_3.length c0_3]) ?_ 1 _ rfl; (with_reducible repeat (first | refine uH ?_ _ | refine uJ ?_ | refine uG ?_ _)); refine uP (cs := #[.int .i64 a0_0, .int .i64 a0_1, .bool a0_2, .slice A0_3 l0_3.length c0_3]) ?_ 0 _ rfl; (with_reducible repeat (first | refine uH ?_ _ | refine uJ ?_ | refine uG ?_ _)); exact BK194.out) hb); replace BK195 := uD (blk_below (g := gb195) (o := .cells #[.int .i64 0, .int .i64 0, .bool false, .slice none 0 0] 29 (0, 0)) (by (with_reducible repeat (first | refine uH ?_ _ | refine uJ ?_ | refine uG ?_ _)); refine uQ ?_ NB195_194.out _; (with_reducible repeat (first | refine uH ?_ _ | refine uJ ?_ | refine uG ?_ _)); refine uQ ?_ NB195_194.out _; (with_reducible repeat (first | refine uH ?_ _ | refine uJ ?_ | refine uG ?_ _)); refine uQ ?_ NB195_194.out _; (with_reducible repeat (first | refine uH ?_ _ | refine uJ ?_ | refine uG ?_ _)); refine uQ ?_ NB195_194.out _; (with_reducible repeat (first | refine uH ?_ _ | refine uJ ?_ | refine uG ?_ _)); exact BK195.out) hb); replace HB := uD (uO (pb HB) hb); clear hb ho13))
 (try simp only [uc, uA, uB, uC])
 go_cut [21] (fun v21 wc => ∃ (kq : Nat) (x21_3 : Bool), v21 = .bool x21_3 ∧ Aside0 (spec_Run.j0 kq a1 y202 x21_3 t196 t197 t198 t199 = some (r1, r2, r3, r4, r5)) ∧ Aside0 (kq ≤ k) ∧ Aside0 (Kd.R k56 56 wc w.heap.size (fun _ => True) v203 y202) ∧ Aside0 (Kd.R k53 53 wc w.heap.size (fun _ => True) (.slice Ao11 t199.length co11) t199) ∧ Aside0 (wc.heap[gb194]? = some (.cells #[.int .i64 t196, .int .i64 t197, .bool t198, (.slice Ao11 t199.length co11)] 29 (0, 0))) ∧ Aside0 (wc.heap[gb195]? = some (.cells #[.int .i64 0, .int .i64 0, .bool false, (.slice none 0 0)] 29 (0, 0))) ∧ Aside0 (Below w.heap.size w wc))
 case first =>
  have H := HC4.out
  clear HC4
  replace H := Option.bind_eq_some_iff.mp H
  obtain ⟨t205, A140, H⟩ := H
  replace H : (if t205 = true then ((spec_l01In.f a1 0 2000).bind fun t206 => (spec_Run.j0 k a1 y202 (!t206) t196 t197 t198 t199)) else (spec_Run.j0 k a1 y202 true t196 t197 t198 t199)) = some (r1, r2, r3, r4, r5) := H
  have A14 := uD A140
  clear A140
  by_cases c15 : t205 = true
  ·subst c15
   have H1 : ((spec_l01In.f a1 0 2000).bind fun t206 => (spec_Run.j0 k a1 y202 (!t206) t196 t197 t198 t199)) = some (r1, r2, r3, r4, r5) := by rw [if_pos rfl] at H; first | done | exact H
   clear H
   have H := H1
   clear H1
   replace H := Option.bind_eq_some_iff.mp H
   obtain ⟨t206, A160, H⟩ := H
   replace H : (spec_Run.j0 k a1 y202 (!t206) t196 t197 t198 t199) = some (r1, r2, r3, r4, r5) := H
   have A16 := uD A160
   clear A160
   have H' := uD H
   clear H
   have hnb17 := NB194_195.out
   have hnc17 := NB195_194.out
   obtain ⟨hcz18_0, hcz18_1, hcz18_2, hcz18_3, hfz18_0, hfz18_1, hfz18_2, hfz18_3⟩ := cz4 BK194
   go_wp2_with (first | ((with_reducible refine gate_callee (f := 16) rfl ?_); refine goesL_ (some 15) rfl rfl Try.func16 (by kernel_rfl) rfl #[.agg #[.int .i64 t196, .int .i64 t197, .bool t198, .slice Ao11 t199.length co11]] rfl (by (try simp only [List.map_toArray, List.map_cons, List.map_nil]); first | done | rfl | (simp only [List.length_drop, List.length_take]; rfl)) ?_; (with_reducible refine (spec_BeltOk.calls k t196 t197 t198 _ _ t199 true _ ?side1 ?side2 A14.out).mono ?_); (case side1 => repeat (first | exact (Kd.R_reads' HO201.out).2.2 | (with_reducible refine Kd.C_alloc ?_ _) | (with_reducible refine Kd.C_drewN ?_ _) | (with_reducible refine Kd.C_drew ?_))); (case side2 => exact (Kd.R_reads' HO201.out).2.1); rintro e w19 ⟨rfl, hb⟩; refine ⟨_, rfl, ?_⟩; replace HO201 := uD (Kd.R_below (pr HO201) hb); replace HO204 := uD (Kd.R_below (pr HO204) hb); replace BK194 := uD (blk_below (pk BK194) hb); replace BK195 := uD (blk_below (pk BK195) hb); replace HB := uD (uO (pb HB) hb); (try clear hb); (try clear hb2); (try clear hk); (try clear hi)) | (go_at_call 48; (with_reducible refine (spec_l01In.calls a1 0 2000 t206 _ A16.out).mono ?_); rintro e w' ⟨rfl, ⟨nd, rfl⟩⟩))
   go_meet
   case rel => exact ⟨_, (!t206), (by first | rfl | (simp; done) | (simp [*]; done)), H', ⟨by first | omega | exact Nat.le_refl _⟩, ⟨by (with_reducible repeat (first | apply uU | apply uS | apply uT)); exact HO204.out⟩, ⟨by (with_reducible repeat (first | apply uU | apply uS | apply uT)); exact HO201.out⟩, ⟨by (with_reducible repeat (first | refine uH ?_ _ | refine uJ ?_ | refine uG ?_ _)); exact BK194.out⟩, ⟨by (with_reducible repeat (first | refine uH ?_ _ | refine uJ ?_ | refine uG ?_ _)); exact BK195.out⟩, ⟨pb HB⟩⟩
  ·replace c15 := Bool.eq_false_iff.mpr c15
   subst c15
   have H1 : (spec_Run.j0 k a1 y202 true t196 t197 t198 t199) = some (r1, r2, r3, r4, r5) := by rw [if_neg (show ¬ (false = true) by decide)] at H; first | done | exact H
   clear H
   have H := H1
   clear H1
   have H' := uD H
   clear H
   have hnb20 := NB194_195.out
   have hnc20 := NB195_194.out
   obtain ⟨hcz21_0, hcz21_1, hcz21_2, hcz21_3, hfz21_0, hfz21_1, hfz21_2, hfz21_3⟩ := cz4 BK194
   go_wp2_with (first | ((with_reducible refine gate_callee (f := 16) rfl ?_); refine goesL_ (some 15) rfl rfl Try.func16 (by kernel_rfl) rfl #[.agg #[.int .i64 t196, .int .i64 t197, .bool t198, .slice Ao11 t199.length co11]] rfl (by (try simp only [List.map_toArray, List.map_cons, List.map_nil]); first | done | rfl | (simp only [List.length_drop, List.length_take]; rfl)) ?_; (with_reducible refine (spec_BeltOk.calls k t196 t197 t198 _ _ t199 false _ ?side1 ?side2 A14.out).mono ?_); (case side1 => repeat (first | exact (Kd.R_reads' HO201.out).2.2 | (with_reducible refine Kd.C_alloc ?_ _) | (with_reducible refine Kd.C_drewN ?_ _) | (with_reducible refine Kd.C_drew ?_))); (case side2 => exact (Kd.R_reads' HO201.out).2.1); rintro e w22 ⟨rfl, hb⟩; refine ⟨_, rfl, ?_⟩; replace HO201 := uD (Kd.R_below (pr HO201) hb); replace HO204 := uD (Kd.R_below (pr HO204) hb); replace BK194 := uD (blk_below (pk BK194) hb); replace BK195 := uD (blk_below (pk BK195) hb); replace HB := uD (uO (pb HB) hb); (try clear hb); (try clear hb2); (try clear hk); (try clear hi)))
   go_meet
   case rel => exact ⟨_, (true), (by first | rfl | (simp; done) | (simp [*]; done)), H', ⟨by first | omega | exact Nat.le_refl _⟩, ⟨by (with_reducible repeat (first | apply uU | apply uS | apply uT)); exact HO204.out⟩, ⟨by (with_reducible repeat (first | apply uU | apply uS | apply uT)); exact HO201.out⟩, ⟨by (with_reducible repeat (first | refine uH ?_ _ | refine uJ ?_ | refine uG ?_ _)); exact BK194.out⟩, ⟨by (with_reducible repeat (first | refine uH ?_ _ | refine uJ ?_ | refine uG ?_ _)); exact BK195.out⟩, ⟨pb HB⟩⟩
 case rest =>
  clear HC4
  try clear c1
  try clear c2
  try clear p2
  try clear c3
  try clear c5
  try clear c7
  try clear c15
  try clear c16
  try clear c17
  try clear c20
  try clear hcz10_0
  try clear hcz10_1
  try clear hcz10_2
  try clear hcz10_3
  try clear hcz18_0
  try clear hcz18_1
  try clear hcz18_2
  try clear hcz18_3
  try clear hcz21_0
  try clear hcz21_1
  try clear hcz21_2
  try clear hcz21_3
  try clear hcz8_0
  try clear hcz8_1
  try clear hcz8_2
  try clear hcz8_3
  try clear hfz10_0
  try clear hfz10_1
  try clear hfz10_2
  try clear hfz10_3
  try clear hfz18_0
  try clear hfz18_1
  try clear hfz18_2
  try clear hfz18_3
  try clear hfz21_0
  try clear hfz21_1
  try clear hfz21_2
  try clear hfz21_3
  try clear hfz8_0
  try clear hfz8_1
  try clear hfz8_2
  try clear hfz8_3
  obtain ⟨kq, x21_3, rfl, HA, HJ3, HO_6, HO_195003, BK194, BK195, HB⟩ := hcut
  cases kq with
  | zero => exact absurd HA.out (by simp [spec_Run.j0])
  | succ kj3 =>
   have H := HA.out
   clear HA
   simp only [spec_Run.j0] at H
   by_cases c23 : x21_3 = true
   ·subst c23
    have H1 : (some (t196, t197, t198, t199, y202)) = some (r1, r2, r3, r4, r5) := by rw [if_pos rfl] at H; first | done | exact H
    clear H
    have H := H1
    clear H1
    simp only [Option.some.injEq, Prod.mk.injEq] at H
    obtain ⟨rfl, rfl, rfl, rfl, rfl⟩ := H
    have hnb24 := NB194_195.out
    have hnc24 := NB195_194.out
    obtain ⟨hcz25_0, hcz25_1, hcz25_2, hcz25_3, hfz25_0, hfz25_1, hfz25_2, hfz25_3⟩ := cz4 BK194
    obtain ⟨hcz26_0, hcz26_1, hcz26_2, hcz26_3, hfz26_0, hfz26_1, hfz26_2, hfz26_3⟩ := cz4 BK195
    go_wp2
    refine bodyPost_ret (uR rfl _ _ gb195 29 #[.int .i64 t196, .int .i64 t197, .bool t198, .slice Ao11 t199.length co11] (0, 0) _ rfl (by (with_reducible repeat (first | refine uH ?_ _ | refine uJ ?_ | refine uG ?_ _)); refine uP (cs := #[.int .i64 t196, .int .i64 t197, .bool t198, .slice none 0 0]) ?_ 3 _ rfl; (with_reducible repeat (first | refine uH ?_ _ | refine uJ ?_ | refine uG ?_ _)); refine uP (cs := #[.int .i64 t196, .int .i64 t197, .bool false, .slice none 0 0]) ?_ 2 _ rfl; (with_reducible repeat (first | refine uH ?_ _ | refine uJ ?_ | refine uG ?_ _)); refine uP (cs := #[.int .i64 t196, .int .i64 0, .bool false, .slice none 0 0]) ?_ 1 _ rfl; (with_reducible repeat (first | refine uH ?_ _ | refine uJ ?_ | refine uG ?_ _)); refine uP (cs := #[.int .i64 0, .int .i64 0, .bool false, .slice none 0 0]) ?_ 0 _ rfl; (with_reducible repeat (first | refine uH ?_ _ | refine uJ ?_ | refine uG ?_ _)); exact BK195.out) Try.underlying29 rfl (by kernel_rfl)) rfl ?_
    exact ⟨_, _, by first | rfl | (simp [errW_none, errW_some] <;> rfl) | (simp [*, errW_none, errW_some] <;> rfl), by (with_reducible repeat (first | apply uU | apply uS | apply uT)); exact uX (uV (p := ⟨gb195, 3, none⟩) (uV (p := ⟨gb195, 2, none⟩) (uV (p := ⟨gb195, 1, none⟩) (uV (p := ⟨gb195, 0, none⟩) (uW HO_195003.out BK195.out (by decide)) (fun _ hk => hk.2) (.int .i64 t196)) (fun _ hk => hk.2) (.int .i64 t197)) (fun _ hk => hk.2) (.bool t198)) (fun _ hk => hk.2) (.slice Ao11 t199.length co11)) (fun _ hk => trivial), by (with_reducible repeat (first | apply uU | apply uS | apply uT)); exact uX (uV (p := ⟨gb195, 3, none⟩) (uV (p := ⟨gb195, 2, none⟩) (uV (p := ⟨gb195, 1, none⟩) (uV (p := ⟨gb195, 0, none⟩) (uW HO_6.out BK195.out (by decide)) (fun _ hk => hk.2) (.int .i64 t196)) (fun _ hk => hk.2) (.int .i64 t197)) (fun _ hk => hk.2) (.bool t198)) (fun _ hk => hk.2) (.slice Ao11 t199.length co11)) (fun _ hk => trivial), pb HB⟩
   ·replace c23 := Bool.eq_false_iff.mpr c23
    subst c23
    have H1 : (spec_Run.l0 kj3 a1 y202 0 t196 t197 t198 t199) = some (r1, r2, r3, r4, r5) := by rw [if_neg (show ¬ (false = true) by decide)] at H; first | done | exact H
    clear H
    have H := H1
    clear H1
    have H' := uD H
    clear H
    go_wp2
    go_loopg [6, 7] kj3 (fun kq v6 v7 w' => ∃ (x6_2 : List (S56)) (x7_2 : Int) (x195000_2 : Int) (x195001_2 : Int) (x195002_2 : Bool) (x195003_2 : List (S53)) (u195003 : Value), v7 = .int .i64 x7_2 ∧ Aside0 (spec_Run.l0 kq a1 x6_2 x7_2 x195000_2 x195001_2 x195002_2 x195003_2 = some (r1, r2, r3, r4, r5)) ∧ Aside0 (kq ≤ kj3) ∧ Aside0 (Kd.R k56 56 w' w.heap.size (fun _ => True) v6 x6_2) ∧ Aside0 (Kd.R k53 53 w' w.heap.size (fun _ => True) u195003 x195003_2) ∧ Aside0 (w'.heap[gb194]? = some (.cells #[.int .i64 x195000_2, .int .i64 x195001_2, .bool x195002_2, u195003] 29 (0, 0))) ∧ Aside0 (w'.heap[gb195]? = some (.cells #[.int .i64 0, .int .i64 0, .bool false, (.slice none 0 0)] 29 (0, 0))) ∧ Aside0 (Below w.heap.size w w'))
    case atStart => exact ⟨(y202), (0), (t196), (t197), (t198), (t199), (.slice Ao11 t199.length co11), (by first | rfl | (simp; done) | (simp [*]; done)), H', ⟨Nat.le_refl _⟩, ⟨by (with_reducible repeat (first | apply uU | apply uS | apply uT)); exact HO_6.out⟩, ⟨by (with_reducible repeat (first | apply uU | apply uS | apply uT)); exact HO_195003.out⟩, ⟨by (with_reducible repeat (first | refine uH ?_ _ | refine uJ ?_ | refine uG ?_ _)); exact BK194.out⟩, ⟨by (with_reducible repeat (first | refine uH ?_ _ | refine uJ ?_ | refine uG ?_ _)); exact BK195.out⟩, ⟨pb HB⟩⟩
    case round =>
     clear H'
     try clear c1
     try clear c2
     try clear p2
     try clear c3
     try clear c5
     try clear c7
     try clear c15
     try clear c16
     try clear c17
     try clear c20
     try clear c23
     try clear c24
     try clear hcz10_0
     try clear hcz10_1
     try clear hcz10_2
     try clear hcz10_3
     try clear hcz18_0
     try clear hcz18_1
     try clear hcz18_2
     try clear hcz18_3
     try clear hcz21_0
     try clear hcz21_1
     try clear hcz21_2
     try clear hcz21_3
     try clear hcz25_0
     try clear hcz25_1
     try clear hcz25_2
     try clear hcz25_3
     try clear hcz26_0
     try clear hcz26_1
     try clear hcz26_2
     try clear hcz26_3
     try clear hcz8_0
     try clear hcz8_1
     try clear hcz8_2
     try clear hcz8_3
     try clear hfz10_0
     try clear hfz10_1
     try clear hfz10_2
     try clear hfz10_3
     try clear hfz18_0
     try clear hfz18_1
     try clear hfz18_2
     try clear hfz18_3
     try clear hfz21_0
     try clear hfz21_1
     try clear hfz21_2
     try clear hfz21_3
     try clear hfz25_0
     try clear hfz25_1
     try clear hfz25_2
     try clear hfz25_3
     try clear hfz26_0
     try clear hfz26_1
     try clear hfz26_2
     try clear hfz26_3
     try clear hfz8_0
     try clear hfz8_1
     try clear hfz8_2
     try clear hfz8_3
     try clear p2
     obtain ⟨x6_2, x7_2, x195000_2, x195001_2, x195002_2, x195003_2, u195003, rfl, HA, HK2, HO_6, HO_195003, BK194, BK195, HB⟩ := hrel
     cases gk with
     | zero => exact absurd HA.out (by simp [spec_Run.l0])
     | succ k2 =>
      have H := HA.out
      clear HA
      simp only [spec_Run.l0] at H
      by_cases c27 : x7_2 < a1
      ·rw [if_pos c27] at H
       have c27b0 : decide (x7_2 < a1) = true := decide_eq_true c27
       clear c27
       replace H := Option.bind_eq_some_iff.mp H
       obtain ⟨⟨t207, t208, t209, t210, t213, t214⟩, A280, H⟩ := H
       replace H : (if t214 = true then (if x6_2.length < 8796093022208 then ((spec_l02Step.f k2 t207 t208 t209 t210).bind fun bt219 => (spec_Run.l0 k2 a1 (x6_2 ++ [(⟨t213, x7_2⟩ : S56)]) (wrap64 (x7_2 + 1)) bt219.1 bt219.2.1 bt219.2.2.1 bt219.2.2.2)) else (none)) else ((spec_l02Step.f k2 t207 t208 t209 t210).bind fun bt225 => (spec_Run.l0 k2 a1 x6_2 (wrap64 (x7_2 + 1)) bt225.1 bt225.2.1 bt225.2.2.1 bt225.2.2.2))) = some (r1, r2, r3, r4, r5) := H
       have A28 := uD A280
       clear A280
       by_cases c29 : t214 = true
       ·subst c29
        have H1 : (if x6_2.length < 8796093022208 then ((spec_l02Step.f k2 t207 t208 t209 t210).bind fun bt219 => (spec_Run.l0 k2 a1 (x6_2 ++ [(⟨t213, x7_2⟩ : S56)]) (wrap64 (x7_2 + 1)) bt219.1 bt219.2.1 bt219.2.2.1 bt219.2.2.2)) else (none)) = some (r1, r2, r3, r4, r5) := by rw [if_pos rfl] at H; first | done | exact H
        clear H
        have H := H1
        clear H1
        by_cases c30 : x6_2.length < 8796093022208
        ·rw [if_pos c30] at H
         have LMc30 := uD c30
         clear c30
         obtain ⟨y216, hy216⟩ : ∃ y_ : List (S56), y_ = (x6_2 ++ [(⟨t213, x7_2⟩ : S56)]) := ⟨_, rfl⟩
         replace H : ((spec_l02Step.f k2 t207 t208 t209 t210).bind fun bt219 => (spec_Run.l0 k2 a1 y216 (wrap64 (x7_2 + 1)) bt219.1 bt219.2.1 bt219.2.2.1 bt219.2.2.2)) = some (r1, r2, r3, r4, r5) := by first | (rw [hy216]; with_reducible exact H) | (have H2_ := (Option.bind_some _ _).symm.trans H; rw [hy216]; with_reducible exact H2_) | (have H2_ := (Option.bind_some _ _).symm.trans H; with_reducible exact H2_) | with_reducible exact H | (rw [hy216]; exact H) | exact H
         have Ny216 := uD hy216
         clear hy216
         replace H := Option.bind_eq_some_iff.mp H
         obtain ⟨⟨t219, t220, t221, t222⟩, A310, H⟩ := H
         replace H : (spec_Run.l0 k2 a1 y216 (wrap64 (x7_2 + 1)) t219 t220 t221 t222) = some (r1, r2, r3, r4, r5) := H
         have A31 := uD A310
         clear A310
         have H' := uD H
         clear H
         have hnb32 := NB194_195.out
         have hnc32 := NB195_194.out
         obtain ⟨hcz33_0, hcz33_1, hcz33_2, hcz33_3, hfz33_0, hfz33_1, hfz33_2, hfz33_3⟩ := cz4 BK194
         obtain ⟨Ao34, co34, eo34⟩ := Kd.R_slice HO_195003.out
         subst eo34
         go_wp2_with (first | ((with_reducible refine gate_callee (f := 26) rfl ?_); refine goesL_ (some 31) rfl rfl Try.func26 (by kernel_rfl) rfl #[.agg #[.int .i64 x195000_2, .int .i64 x195001_2, .bool x195002_2, .slice Ao34 x195003_2.length co34]] rfl (by (try simp only [List.map_toArray, List.map_cons, List.map_nil]); first | done | rfl | (simp only [List.length_drop, List.length_take]; rfl)) ?_; (with_reducible refine (spec_Leave.calls k2 x195000_2 x195001_2 x195002_2 _ _ x195003_2 t207 t208 t209 t210 t213 true _ ?side1 ?side2 A28.out).mono ?_); (case side1 => repeat (first | exact (Kd.R_reads' HO_195003.out).2.2 | (with_reducible refine Kd.C_alloc ?_ _) | (with_reducible refine Kd.C_drewN ?_ _) | (with_reducible refine Kd.C_drew ?_))); (case side2 => exact (Kd.R_reads' HO_195003.out).2.1); rintro e w35 ⟨v211, rfl, ho0, hb⟩; refine ⟨_, rfl, ?_⟩; replace HO_6 := uD (Kd.R_below (pr HO_6) hb); have HO212 := uD (Kd.R_lower (Kd.R_new' ho0 (Kd.R_lt (pr HO_195003))) (uN (pb HB))); replace HO_195003 := uD (Kd.R_elder' (pr HO_195003) (Kd.R_base ho0) hb); replace BK194 := uD (blk_below (pk BK194) hb); replace BK195 := uD (blk_below (pk BK195) hb); replace HB := uD (uO (pb HB) hb); (try clear hb); (try clear hb2); (try clear hk); (try clear hi); (try clear ho0)) | ((with_reducible refine gate_dst (N := 8) rfl ?_); refine box_event ?hg (N := 8) ?hd (cs := #[.int .i64 0, .int .i64 0, .bool false, .slice none 0 0]) (t := 29) ?hr ?_; (case hd => rfl); (case hg => rfl); (case hr => first | (go_simp; done) | (go_simp; rfl)); intro gb215 hg w36 hbox hb; replace HO_6 := uD (Kd.R_below (pr HO_6) hb); replace HO_195003 := uD (Kd.R_below (pr HO_195003) hb); replace HO212 := uD (Kd.R_below (pr HO212) hb); have BK215 := uD (hbox); have GW215 := uD ((by rw [hg]; exact (uN (pb HB)) : w.heap.size ≤ gb215)); have GE215 := uD ((by rw [hg]; exact (uN (pb HB)) : w.heap.size ≤ gb215)); replace HB := uD (uO (pb HB) hb); have NB194_215 := uD ((by rw [hg]; exact Nat.ne_of_lt (blk_lt (g := gb194) (o := .cells #[.int .i64 x195000_2, .int .i64 x195001_2, .bool x195002_2, .slice Ao34 x195003_2.length co34] 29 (0, 0)) (pk BK194)) : gb194 ≠ gb215)); have NB215_194 := uD ((by rw [hg]; exact Nat.ne_of_gt (blk_lt (g := gb194) (o := .cells #[.int .i64 x195000_2, .int .i64 x195001_2, .bool x195002_2, .slice Ao34 x195003_2.length co34] 29 (0, 0)) (pk BK194)) : gb215 ≠ gb194)); replace BK194 := uD (blk_below (pk BK194) hb); have NB195_215 := uD ((by rw [hg]; exact Nat.ne_of_lt (blk_lt (g := gb195) (o := .cells #[.int .i64 0, .int .i64 0, .bool false, .slice none 0 0] 29 (0, 0)) (pk BK195)) : gb195 ≠ gb215)); have NB215_195 := uD ((by rw [hg]; exact Nat.ne_of_gt (blk_lt (g := gb195) (o := .cells #[.int .i64 0, .int .i64 0, .bool false, .slice none 0 0] 29 (0, 0)) (pk BK195)) : gb215 ≠ gb195)); replace BK195 := uD (blk_below (pk BK195) hb); clear hb hbox hg; have hnb37 := NB215_194.out; have hnc37 := NB194_215.out; have hnb38 := NB215_195.out; have hnc38 := NB195_215.out; obtain ⟨hcz39_0, hcz39_1, hcz39_2, hcz39_3, hfz39_0, hfz39_1, hfz39_2, hfz39_3⟩ := cz4 BK215; obtain ⟨Ao40, co40, eo40⟩ := Kd.R_slice HO212.out; subst eo40) | ((with_reducible refine gate_builtin (b := .append) (xs := #[.tmp 36, .tmp 40]) rfl ?_); at_builtin; refine Kd.R_append k56 (w0 := w) w.heap.size rfl (.tmp 36) (.tmp 40) 42 56 (.agg #[(.int .i64 0), (.int .i64 0)]) 16 rfl Try.underlying42 info56 rfl (by decide) (by omega) u6 x6_2 (⟨t213, x7_2⟩ : S56) [.int .i64 t213, .int .i64 x7_2] (fun _ => True) (fun _ => False) rfl (by first | (go_simp; done) | (go_simp; rfl)) ?aP (fun _ hk => hk.elim) ?aF ?aO ?aB ?aS ?aL ?_; (case aP => exact k56_mkM _ _ _ (⟨t213, x7_2⟩ : S56)); (case aB => exact (pb HB)); (case aF => exact (fun _ _ => trivial)); (case aO => exact (by (with_reducible repeat (first | apply uU | apply uS | apply uT)); exact uX (uV (p := ⟨gb215, 3, none⟩) (uV (p := ⟨gb215, 2, none⟩) (uV (p := ⟨gb215, 1, none⟩) (uV (p := ⟨gb215, 0, none⟩) (uW HO_6.out BK215.out (by decide)) (fun _ hk => hk.2) (.int .i64 t207)) (fun _ hk => hk.2) (.int .i64 t208)) (fun _ hk => hk.2) (.bool t209)) (fun _ hk => hk.2) (.slice Ao40 t210.length co40)) (fun _ hk => trivial))); (case aS => exact (uN (pb HB))); (case aL => have := LMc30.out; omega); intro v217 w41 ho hb hg hat; rw [← Ny216.out] at ho; replace HO_195003 := uD (Kd.R_over' (by (with_reducible repeat (first | apply uU | apply uS | apply uT)); exact (uX (uV (p := ⟨gb215, 3, none⟩) (uV (p := ⟨gb215, 2, none⟩) (uV (p := ⟨gb215, 1, none⟩) (uV (p := ⟨gb215, 0, none⟩) (uW HO_195003.out BK215.out (by decide)) (fun _ hk => hk.2) (.int .i64 t207)) (fun _ hk => hk.2) (.int .i64 t208)) (fun _ hk => hk.2) (.bool t209)) (fun _ hk => hk.2) (.slice Ao40 t210.length co40)) (fun _ h_ => h_.1))) (Kd.R_typed (by (with_reducible repeat (first | apply uU | apply uS | apply uT)); exact (uX (uV (p := ⟨gb215, 3, none⟩) (uV (p := ⟨gb215, 2, none⟩) (uV (p := ⟨gb215, 1, none⟩) (uV (p := ⟨gb215, 0, none⟩) (uW HO_6.out BK215.out (by decide)) (fun _ hk => hk.2) (.int .i64 t207)) (fun _ hk => hk.2) (.int .i64 t208)) (fun _ hk => hk.2) (.bool t209)) (fun _ hk => hk.2) (.slice Ao40 t210.length co40)) (fun _ h_ => h_.1)))) (by decide) hg); replace BK194 := uD (blk_grown (g := gb194) (o := .cells #[.int .i64 x195000_2, .int .i64 x195001_2, .bool x195002_2, .slice Ao34 x195003_2.length co34] 29 (0, 0)) (by (with_reducible repeat (first | refine uH ?_ _ | refine uJ ?_ | refine uG ?_ _)); refine uQ ?_ NB194_215.out _; (with_reducible repeat (first | refine uH ?_ _ | refine uJ ?_ | refine uG ?_ _)); refine uQ ?_ NB194_215.out _; (with_reducible repeat (first | refine uH ?_ _ | refine uJ ?_ | refine uG ?_ _)); refine uQ ?_ NB194_215.out _; (with_reducible repeat (first | refine uH ?_ _ | refine uJ ?_ | refine uG ?_ _)); refine uQ ?_ NB194_215.out _; (with_reducible repeat (first | refine uH ?_ _ | refine uJ ?_ | refine uG ?_ _)); exact BK194.out) hg (Kd.R_ne HO_6.out BK194.out (by decide))); replace BK195 := uD (blk_grown (g := gb195) (o := .cells #[.int .i64 0, .int .i64 0, .bool false, .slice none 0 0] 29 (0, 0)) (by (with_reducible repeat (first | refine uH ?_ _ | refine uJ ?_ | refine uG ?_ _)); refine uQ ?_ NB195_215.out _; (with_reducible repeat (first | refine uH ?_ _ | refine uJ ?_ | refine uG ?_ _)); refine uQ ?_ NB195_215.out _; (with_reducible repeat (first | refine uH ?_ _ | refine uJ ?_ | refine uG ?_ _)); refine uQ ?_ NB195_215.out _; (with_reducible repeat (first | refine uH ?_ _ | refine uJ ?_ | refine uG ?_ _)); refine uQ ?_ NB195_215.out _; (with_reducible repeat (first | refine uH ?_ _ | refine uJ ?_ | refine uG ?_ _)); exact BK195.out) hg (Kd.R_ne HO_6.out BK195.out (by decide))); replace HO212 := uD (Kd.R_over' (by (with_reducible repeat (first | apply uU | apply uS | apply uT)); exact (uX (uV (p := ⟨gb215, 3, none⟩) (uV (p := ⟨gb215, 2, none⟩) (uV (p := ⟨gb215, 1, none⟩) (uV (p := ⟨gb215, 0, none⟩) (uW HO212.out BK215.out (by decide)) (fun _ hk => hk.2) (.int .i64 t207)) (fun _ hk => hk.2) (.int .i64 t208)) (fun _ hk => hk.2) (.bool t209)) (fun _ hk => hk.2) (.slice Ao40 t210.length co40)) (fun _ h_ => h_.1))) (Kd.R_typed (by (with_reducible repeat (first | apply uU | apply uS | apply uT)); exact (uX (uV (p := ⟨gb215, 3, none⟩) (uV (p := ⟨gb215, 2, none⟩) (uV (p := ⟨gb215, 1, none⟩) (uV (p := ⟨gb215, 0, none⟩) (uW HO_6.out BK215.out (by decide)) (fun _ hk => hk.2) (.int .i64 t207)) (fun _ hk => hk.2) (.int .i64 t208)) (fun _ hk => hk.2) (.bool t209)) (fun _ hk => hk.2) (.slice Ao40 t210.length co40)) (fun _ h_ => h_.1)))) (by decide) hg); replace BK215 := uD (blk_grown (g := gb215) (o := .cells #[.int .i64 t207, .int .i64 t208, .bool t209, .slice Ao40 t210.length co40] 29 (0, 0)) (by (with_reducible repeat (first | refine uH ?_ _ | refine uJ ?_ | refine uG ?_ _)); refine uP (cs := #[.int .i64 t207, .int .i64 t208, .bool t209, .slice none 0 0]) ?_ 3 _ rfl; (with_reducible repeat (first | refine uH ?_ _ | refine uJ ?_ | refine uG ?_ _)); refine uP (cs := #[.int .i64 t207, .int .i64 t208, .bool false, .slice none 0 0]) ?_ 2 _ rfl; (with_reducible repeat (first | refine uH ?_ _ | refine uJ ?_ | refine uG ?_ _)); refine uP (cs := #[.int .i64 t207, .int .i64 0, .bool false, .slice none 0 0]) ?_ 1 _ rfl; (with_reducible repeat (first | refine uH ?_ _ | refine uJ ?_ | refine uG ?_ _)); refine uP (cs := #[.int .i64 0, .int .i64 0, .bool false, .slice none 0 0]) ?_ 0 _ rfl; (with_reducible repeat (first | refine uH ?_ _ | refine uJ ?_ | refine uG ?_ _)); exact BK215.out) hg (Kd.R_ne HO_6.out BK215.out (by decide))); replace HB := uD (hb); have HO218 := uD (ho); clear HO_6; clear ho hb hg hat; obtain ⟨hcz42_0, hcz42_1, hcz42_2, hcz42_3, hfz42_0, hfz42_1, hfz42_2, hfz42_3⟩ := cz4 BK215) | ((with_reducible refine gate_callee (f := 52) rfl ?_); refine goesL_ (some 43) rfl rfl Try.func52 (by kernel_rfl) rfl #[.agg #[.int .i64 t207, .int .i64 t208, .bool t209, .slice Ao40 t210.length co40]] rfl (by (try simp only [List.map_toArray, List.map_cons, List.map_nil]); first | done | rfl | (simp only [List.length_drop, List.length_take]; rfl)) ?_; (with_reducible refine (spec_l02Step.calls k2 t207 t208 t209 _ _ t210 t219 t220 t221 t222 _ ?side1 ?side2 A31.out).mono ?_); (case side1 => repeat (first | exact (Kd.R_reads' HO212.out).2.2 | (with_reducible refine Kd.C_alloc ?_ _) | (with_reducible refine Kd.C_drewN ?_ _) | (with_reducible refine Kd.C_drew ?_))); (case side2 => exact (Kd.R_reads' HO212.out).2.1); rintro e w43 ⟨v223, rfl, ho0, hb⟩; refine ⟨_, rfl, ?_⟩; replace HO218 := uD (Kd.R_below (pr HO218) hb); have HO224 := uD (Kd.R_lower (Kd.R_new' (Kd.R_new' ho0 (Kd.R_lt (pr HO_195003))) (Kd.R_lt (pr HO212))) (uN (pb HB))); replace HO_195003 := uD (Kd.R_elder' (pr HO_195003) (Kd.R_base ho0) hb); replace HO212 := uD (Kd.R_elder' (pr HO212) (Kd.R_base ho0) hb); replace BK194 := uD (blk_below (pk BK194) hb); replace BK195 := uD (blk_below (pk BK195) hb); replace BK215 := uD (blk_below (pk BK215) hb); replace HB := uD (uO (pb HB) hb); (try clear hb); (try clear hb2); (try clear hk); (try clear hi); (try clear ho0); obtain ⟨hcz44_0, hcz44_1, hcz44_2, hcz44_3, hfz44_0, hfz44_1, hfz44_2, hfz44_3⟩ := cz4 BK194; obtain ⟨Ao45, co45, eo45⟩ := Kd.R_slice HO224.out; subst eo45))
         go_roundg k2
         case measure => have := HJ3.out; have := HK2.out; omega
         case rel => exact ⟨(y216), (wrap64 (x7_2 + 1)), (t219), (t220), (t221), (t222), (.slice Ao45 t222.length co45), (by first | rfl | (simp; done) | (simp [*]; done)), H', ⟨by have := HJ3.out; have := HK2.out; omega⟩, ⟨by (with_reducible repeat (first | apply uU | apply uS | apply uT)); exact uX (uV (p := ⟨gb194, 3, none⟩) (uV (p := ⟨gb194, 2, none⟩) (uV (p := ⟨gb194, 1, none⟩) (uV (p := ⟨gb194, 0, none⟩) (uW HO218.out BK194.out (by decide)) (fun _ hk => hk.2) (.int .i64 t219)) (fun _ hk => hk.2) (.int .i64 t220)) (fun _ hk => hk.2) (.bool t221)) (fun _ hk => hk.2) (.slice Ao45 t222.length co45)) (fun _ hk => trivial)⟩, ⟨by (with_reducible repeat (first | apply uU | apply uS | apply uT)); exact uX (uV (p := ⟨gb194, 3, none⟩) (uV (p := ⟨gb194, 2, none⟩) (uV (p := ⟨gb194, 1, none⟩) (uV (p := ⟨gb194, 0, none⟩) (uW HO224.out BK194.out (by decide)) (fun _ hk => hk.2) (.int .i64 t219)) (fun _ hk => hk.2) (.int .i64 t220)) (fun _ hk => hk.2) (.bool t221)) (fun _ hk => hk.2) (.slice Ao45 t222.length co45)) (fun _ hk => trivial)⟩, ⟨by (with_reducible repeat (first | refine uH ?_ _ | refine uJ ?_ | refine uG ?_ _)); refine uP (cs := #[.int .i64 t219, .int .i64 t220, .bool t221, .slice Ao34 x195003_2.length co34]) ?_ 3 _ rfl; (with_reducible repeat (first | refine uH ?_ _ | refine uJ ?_ | refine uG ?_ _)); refine uP (cs := #[.int .i64 t219, .int .i64 t220, .bool x195002_2, .slice Ao34 x195003_2.length co34]) ?_ 2 _ rfl; (with_reducible repeat (first | refine uH ?_ _ | refine uJ ?_ | refine uG ?_ _)); refine uP (cs := #[.int .i64 t219, .int .i64 x195001_2, .bool x195002_2, .slice Ao34 x195003_2.length co34]) ?_ 1 _ rfl; (with_reducible repeat (first | refine uH ?_ _ | refine uJ ?_ | refine uG ?_ _)); refine uP (cs := #[.int .i64 x195000_2, .int .i64 x195001_2, .bool x195002_2, .slice Ao34 x195003_2.length co34]) ?_ 0 _ rfl; (with_reducible repeat (first | refine uH ?_ _ | refine uJ ?_ | refine uG ?_ _)); exact BK194.out⟩, ⟨by (with_reducible repeat (first | refine uH ?_ _ | refine uJ ?_ | refine uG ?_ _)); refine uQ ?_ NB195_194.out _; (with_reducible repeat (first | refine uH ?_ _ | refine uJ ?_ | refine uG ?_ _)); refine uQ ?_ NB195_194.out _; (with_reducible repeat (first | refine uH ?_ _ | refine uJ ?_ | refine uG ?_ _)); refine uQ ?_ NB195_194.out _; (with_reducible repeat (first | refine uH ?_ _ | refine uJ ?_ | refine uG ?_ _)); refine uQ ?_ NB195_194.out _; (with_reducible repeat (first | refine uH ?_ _ | refine uJ ?_ | refine uG ?_ _)); exact BK195.out⟩, ⟨pb HB⟩⟩
        ·rw [if_neg c30] at H
         exact absurd H (by simp)
       ·replace c29 := Bool.eq_false_iff.mpr c29
        subst c29
        have H1 : ((spec_l02Step.f k2 t207 t208 t209 t210).bind fun bt225 => (spec_Run.l0 k2 a1 x6_2 (wrap64 (x7_2 + 1)) bt225.1 bt225.2.1 bt225.2.2.1 bt225.2.2.2)) = some (r1, r2, r3, r4, r5) := by rw [if_neg (show ¬ (false = true) by decide)] at H; first | done | exact H
        clear H
        have H := H1
        clear H1
        replace H := Option.bind_eq_some_iff.mp H
        obtain ⟨⟨t225, t226, t227, t228⟩, A460, H⟩ := H
        replace H : (spec_Run.l0 k2 a1 x6_2 (wrap64 (x7_2 + 1)) t225 t226 t227 t228) = some (r1, r2, r3, r4, r5) := H
        have A46 := uD A460
        clear A460
        have H' := uD H
        clear H
        have hnb47 := NB194_195.out
        have hnc47 := NB195_194.out
        obtain ⟨hcz48_0, hcz48_1, hcz48_2, hcz48_3, hfz48_0, hfz48_1, hfz48_2, hfz48_3⟩ := cz4 BK194
        obtain ⟨Ao49, co49, eo49⟩ := Kd.R_slice HO_195003.out
        subst eo49
        go_wp2_with (first | ((with_reducible refine gate_callee (f := 26) rfl ?_); refine goesL_ (some 31) rfl rfl Try.func26 (by kernel_rfl) rfl #[.agg #[.int .i64 x195000_2, .int .i64 x195001_2, .bool x195002_2, .slice Ao49 x195003_2.length co49]] rfl (by (try simp only [List.map_toArray, List.map_cons, List.map_nil]); first | done | rfl | (simp only [List.length_drop, List.length_take]; rfl)) ?_; (with_reducible refine (spec_Leave.calls k2 x195000_2 x195001_2 x195002_2 _ _ x195003_2 t207 t208 t209 t210 t213 false _ ?side1 ?side2 A28.out).mono ?_); (case side1 => repeat (first | exact (Kd.R_reads' HO_195003.out).2.2 | (with_reducible refine Kd.C_alloc ?_ _) | (with_reducible refine Kd.C_drewN ?_ _) | (with_reducible refine Kd.C_drew ?_))); (case side2 => exact (Kd.R_reads' HO_195003.out).2.1); rintro e w50 ⟨v211, rfl, ho0, hb⟩; refine ⟨_, rfl, ?_⟩; replace HO_6 := uD (Kd.R_below (pr HO_6) hb); have HO212 := uD (Kd.R_lower (Kd.R_new' ho0 (Kd.R_lt (pr HO_195003))) (uN (pb HB))); replace HO_195003 := uD (Kd.R_elder' (pr HO_195003) (Kd.R_base ho0) hb); replace BK194 := uD (blk_below (pk BK194) hb); replace BK195 := uD (blk_below (pk BK195) hb); replace HB := uD (uO (pb HB) hb); (try clear hb); (try clear hb2); (try clear hk); (try clear hi); (try clear ho0)) | ((with_reducible refine gate_dst (N := 8) rfl ?_); refine box_event ?hg (N := 8) ?hd (cs := #[.int .i64 0, .int .i64 0, .bool false, .slice none 0 0]) (t := 29) ?hr ?_; (case hd => rfl); (case hg => rfl); (case hr => first | (go_simp; done) | (go_simp; rfl)); intro gb215 hg w51 hbox hb; replace HO_6 := uD (Kd.R_below (pr HO_6) hb); replace HO_195003 := uD (Kd.R_below (pr HO_195003) hb); replace HO212 := uD (Kd.R_below (pr HO212) hb); have BK215 := uD (hbox); have GW215 := uD ((by rw [hg]; exact (uN (pb HB)) : w.heap.size ≤ gb215)); have GE215 := uD ((by rw [hg]; exact (uN (pb HB)) : w.heap.size ≤ gb215)); replace HB := uD (uO (pb HB) hb); have NB194_215 := uD ((by rw [hg]; exact Nat.ne_of_lt (blk_lt (g := gb194) (o := .cells #[.int .i64 x195000_2, .int .i64 x195001_2, .bool x195002_2, .slice Ao49 x195003_2.length co49] 29 (0, 0)) (pk BK194)) : gb194 ≠ gb215)); have NB215_194 := uD ((by rw [hg]; exact Nat.ne_of_gt (blk_lt (g := gb194) (o := .cells #[.int .i64 x195000_2, .int .i64 x195001_2, .bool x195002_2, .slice Ao49 x195003_2.length co49] 29 (0, 0)) (pk BK194)) : gb215 ≠ gb194)); replace BK194 := uD (blk_below (pk BK194) hb); have NB195_215 := uD ((by rw [hg]; exact Nat.ne_of_lt (blk_lt (g := gb195) (o := .cells #[.int .i64 0, .int .i64 0, .bool false, .slice none 0 0] 29 (0, 0)) (pk BK195)) : gb195 ≠ gb215)); have NB215_195 := uD ((by rw [hg]; exact Nat.ne_of_gt (blk_lt (g := gb195) (o := .cells #[.int .i64 0, .int .i64 0, .bool false, .slice none 0 0] 29 (0, 0)) (pk BK195)) : gb215 ≠ gb195)); replace BK195 := uD (blk_below (pk BK195) hb); clear hb hbox hg; have hnb52 := NB215_194.out; have hnc52 := NB194_215.out; have hnb53 := NB215_195.out; have hnc53 := NB195_215.out; obtain ⟨hcz54_0, hcz54_1, hcz54_2, hcz54_3, hfz54_0, hfz54_1, hfz54_2, hfz54_3⟩ := cz4 BK215; obtain ⟨Ao55, co55, eo55⟩ := Kd.R_slice HO212.out; subst eo55) | ((with_reducible refine gate_callee (f := 52) rfl ?_); refine goesL_ (some 43) rfl rfl Try.func52 (by kernel_rfl) rfl #[.agg #[.int .i64 t207, .int .i64 t208, .bool t209, .slice Ao55 t210.length co55]] rfl (by (try simp only [List.map_toArray, List.map_cons, List.map_nil]); first | done | rfl | (simp only [List.length_drop, List.length_take]; rfl)) ?_; (with_reducible refine (spec_l02Step.calls k2 t207 t208 t209 _ _ t210 t225 t226 t227 t228 _ ?side1 ?side2 A46.out).mono ?_); (case side1 => refine (Kd.R_reads' (e := 53) (base := w.heap.size) (ok := fun k_ => (True ∧ some k_ ≠ (.slice Ao49 x195003_2.length co49 : Value).ownBlock)) (n := t210.length) (c := co55) ?_).2.2; exact (by (with_reducible repeat (first | apply uU | apply uS | apply uT)); exact (uX (uV (p := ⟨gb215, 3, none⟩) (uV (p := ⟨gb215, 2, none⟩) (uV (p := ⟨gb215, 1, none⟩) (uV (p := ⟨gb215, 0, none⟩) (uW HO212.out BK215.out (by decide)) (fun _ hk => hk.2) (.int .i64 t207)) (fun _ hk => hk.2) (.int .i64 t208)) (fun _ hk => hk.2) (.bool t209)) (fun _ hk => hk.2) (.slice Ao55 t210.length co55)) (fun _ h_ => h_.1)))); (case side2 => exact (Kd.R_reads' HO212.out).2.1); rintro e w56 ⟨v229, rfl, ho0, hb⟩; refine ⟨_, rfl, ?_⟩; replace HO_6 := uD (Kd.R_below (by (with_reducible repeat (first | apply uU | apply uS | apply uT)); exact (uX (uV (p := ⟨gb215, 3, none⟩) (uV (p := ⟨gb215, 2, none⟩) (uV (p := ⟨gb215, 1, none⟩) (uV (p := ⟨gb215, 0, none⟩) (uW HO_6.out BK215.out (by decide)) (fun _ hk => hk.2) (.int .i64 t207)) (fun _ hk => hk.2) (.int .i64 t208)) (fun _ hk => hk.2) (.bool t209)) (fun _ hk => hk.2) (.slice Ao55 t210.length co55)) (fun _ h_ => h_.1))) hb); have HO230 := uD (Kd.R_lower (Kd.R_new' (Kd.R_new' ho0 (Kd.R_lt (by (with_reducible repeat (first | apply uU | apply uS | apply uT)); exact (uX (uV (p := ⟨gb215, 3, none⟩) (uV (p := ⟨gb215, 2, none⟩) (uV (p := ⟨gb215, 1, none⟩) (uV (p := ⟨gb215, 0, none⟩) (uW HO_195003.out BK215.out (by decide)) (fun _ hk => hk.2) (.int .i64 t207)) (fun _ hk => hk.2) (.int .i64 t208)) (fun _ hk => hk.2) (.bool t209)) (fun _ hk => hk.2) (.slice Ao55 t210.length co55)) (fun _ h_ => h_.1))))) (Kd.R_lt (by (with_reducible repeat (first | apply uU | apply uS | apply uT)); exact (uX (uV (p := ⟨gb215, 3, none⟩) (uV (p := ⟨gb215, 2, none⟩) (uV (p := ⟨gb215, 1, none⟩) (uV (p := ⟨gb215, 0, none⟩) (uW HO212.out BK215.out (by decide)) (fun _ hk => hk.2) (.int .i64 t207)) (fun _ hk => hk.2) (.int .i64 t208)) (fun _ hk => hk.2) (.bool t209)) (fun _ hk => hk.2) (.slice Ao55 t210.length co55)) (fun _ h_ => h_.1))))) (uN (pb HB))); replace HO_195003 := uD (Kd.R_elder' (by (with_reducible repeat (first | apply uU | apply uS | apply uT)); exact (uX (uV (p := ⟨gb215, 3, none⟩) (uV (p := ⟨gb215, 2, none⟩) (uV (p := ⟨gb215, 1, none⟩) (uV (p := ⟨gb215, 0, none⟩) (uW HO_195003.out BK215.out (by decide)) (fun _ hk => hk.2) (.int .i64 t207)) (fun _ hk => hk.2) (.int .i64 t208)) (fun _ hk => hk.2) (.bool t209)) (fun _ hk => hk.2) (.slice Ao55 t210.length co55)) (fun _ h_ => h_.1))) (Kd.R_base ho0) hb); replace HO212 := uD (Kd.R_elder' (by (with_reducible repeat (first | apply uU | apply uS | apply uT)); exact (uX (uV (p := ⟨gb215, 3, none⟩) (uV (p := ⟨gb215, 2, none⟩) (uV (p := ⟨gb215, 1, none⟩) (uV (p := ⟨gb215, 0, none⟩) (uW HO212.out BK215.out (by decide)) (fun _ hk => hk.2) (.int .i64 t207)) (fun _ hk => hk.2) (.int .i64 t208)) (fun _ hk => hk.2) (.bool t209)) (fun _ hk => hk.2) (.slice Ao55 t210.length co55)) (fun _ h_ => h_.1))) (Kd.R_base ho0) hb); replace BK194 := uD (blk_below (g := gb194) (o := .cells #[.int .i64 x195000_2, .int .i64 x195001_2, .bool x195002_2, .slice Ao49 x195003_2.length co49] 29 (0, 0)) (by (with_reducible repeat (first | refine uH ?_ _ | refine uJ ?_ | refine uG ?_ _)); refine uQ ?_ NB194_215.out _; (with_reducible repeat (first | refine uH ?_ _ | refine uJ ?_ | refine uG ?_ _)); refine uQ ?_ NB194_215.out _; (with_reducible repeat (first | refine uH ?_ _ | refine uJ ?_ | refine uG ?_ _)); refine uQ ?_ NB194_215.out _; (with_reducible repeat (first | refine uH ?_ _ | refine uJ ?_ | refine uG ?_ _)); refine uQ ?_ NB194_215.out _; (with_reducible repeat (first | refine uH ?_ _ | refine uJ ?_ | refine uG ?_ _)); exact BK194.out) hb); replace BK195 := uD (blk_below (g := gb195) (o := .cells #[.int .i64 0, .int .i64 0, .bool false, .slice none 0 0] 29 (0, 0)) (by (with_reducible repeat (first | refine uH ?_ _ | refine uJ ?_ | refine uG ?_ _)); refine uQ ?_ NB195_215.out _; (with_reducible repeat (first | refine uH ?_ _ | refine uJ ?_ | refine uG ?_ _)); refine uQ ?_ NB195_215.out _; (with_reducible repeat (first | refine uH ?_ _ | refine uJ ?_ | refine uG ?_ _)); refine uQ ?_ NB195_215.out _; (with_reducible repeat (first | refine uH ?_ _ | refine uJ ?_ | refine uG ?_ _)); refine uQ ?_ NB195_215.out _; (with_reducible repeat (first | refine uH ?_ _ | refine uJ ?_ | refine uG ?_ _)); exact BK195.out) hb); replace BK215 := uD (blk_below (g := gb215) (o := .cells #[.int .i64 t207, .int .i64 t208, .bool t209, .slice Ao55 t210.length co55] 29 (0, 0)) (by (with_reducible repeat (first | refine uH ?_ _ | refine uJ ?_ | refine uG ?_ _)); refine uP (cs := #[.int .i64 t207, .int .i64 t208, .bool t209, .slice none 0 0]) ?_ 3 _ rfl; (with_reducible repeat (first | refine uH ?_ _ | refine uJ ?_ | refine uG ?_ _)); refine uP (cs := #[.int .i64 t207, .int .i64 t208, .bool false, .slice none 0 0]) ?_ 2 _ rfl; (with_reducible repeat (first | refine uH ?_ _ | refine uJ ?_ | refine uG ?_ _)); refine uP (cs := #[.int .i64 t207, .int .i64 0, .bool false, .slice none 0 0]) ?_ 1 _ rfl; (with_reducible repeat (first | refine uH ?_ _ | refine uJ ?_ | refine uG ?_ _)); refine uP (cs := #[.int .i64 0, .int .i64 0, .bool false, .slice none 0 0]) ?_ 0 _ rfl; (with_reducible repeat (first | refine uH ?_ _ | refine uJ ?_ | refine uG ?_ _)); exact BK215.out) hb); replace HB := uD (uO (pb HB) hb); (try clear hb); (try clear hb2); (try clear hk); (try clear hi); (try clear ho0); obtain ⟨hcz57_0, hcz57_1, hcz57_2, hcz57_3, hfz57_0, hfz57_1, hfz57_2, hfz57_3⟩ := cz4 BK194; obtain ⟨Ao58, co58, eo58⟩ := Kd.R_slice HO230.out; subst eo58))
        go_roundg k2
        case measure => have := HJ3.out; have := HK2.out; omega
        case rel => exact ⟨(x6_2), (wrap64 (x7_2 + 1)), (t225), (t226), (t227), (t228), (.slice Ao58 t228.length co58), (by first | rfl | (simp; done) | (simp [*]; done)), H', ⟨by have := HJ3.out; have := HK2.out; omega⟩, ⟨by (with_reducible repeat (first | apply uU | apply uS | apply uT)); exact uX (uV (p := ⟨gb194, 3, none⟩) (uV (p := ⟨gb194, 2, none⟩) (uV (p := ⟨gb194, 1, none⟩) (uV (p := ⟨gb194, 0, none⟩) (uW HO_6.out BK194.out (by decide)) (fun _ hk => hk.2) (.int .i64 t225)) (fun _ hk => hk.2) (.int .i64 t226)) (fun _ hk => hk.2) (.bool t227)) (fun _ hk => hk.2) (.slice Ao58 t228.length co58)) (fun _ hk => trivial)⟩, ⟨by (with_reducible repeat (first | apply uU | apply uS | apply uT)); exact uX (uV (p := ⟨gb194, 3, none⟩) (uV (p := ⟨gb194, 2, none⟩) (uV (p := ⟨gb194, 1, none⟩) (uV (p := ⟨gb194, 0, none⟩) (uW HO230.out BK194.out (by decide)) (fun _ hk => hk.2) (.int .i64 t225)) (fun _ hk => hk.2) (.int .i64 t226)) (fun _ hk => hk.2) (.bool t227)) (fun _ hk => hk.2) (.slice Ao58 t228.length co58)) (fun _ hk => trivial)⟩, ⟨by (with_reducible repeat (first | refine uH ?_ _ | refine uJ ?_ | refine uG ?_ _)); refine uP (cs := #[.int .i64 t225, .int .i64 t226, .bool t227, .slice Ao49 x195003_2.length co49]) ?_ 3 _ rfl; (with_reducible repeat (first | refine uH ?_ _ | refine uJ ?_ | refine uG ?_ _)); refine uP (cs := #[.int .i64 t225, .int .i64 t226, .bool x195002_2, .slice Ao49 x195003_2.length co49]) ?_ 2 _ rfl; (with_reducible repeat (first | refine uH ?_ _ | refine uJ ?_ | refine uG ?_ _)); refine uP (cs := #[.int .i64 t225, .int .i64 x195001_2, .bool x195002_2, .slice Ao49 x195003_2.length co49]) ?_ 1 _ rfl; (with_reducible repeat (first | refine uH ?_ _ | refine uJ ?_ | refine uG ?_ _)); refine uP (cs := #[.int .i64 x195000_2, .int .i64 x195001_2, .bool x195002_2, .slice Ao49 x195003_2.length co49]) ?_ 0 _ rfl; (with_reducible repeat (first | refine uH ?_ _ | refine uJ ?_ | refine uG ?_ _)); exact BK194.out⟩, ⟨by (with_reducible repeat (first | refine uH ?_ _ | refine uJ ?_ | refine uG ?_ _)); refine uQ ?_ NB195_194.out _; (with_reducible repeat (first | refine uH ?_ _ | refine uJ ?_ | refine uG ?_ _)); refine uQ ?_ NB195_194.out _; (with_reducible repeat (first | refine uH ?_ _ | refine uJ ?_ | refine uG ?_ _)); refine uQ ?_ NB195_194.out _; (with_reducible repeat (first | refine uH ?_ _ | refine uJ ?_ | refine uG ?_ _)); refine uQ ?_ NB195_194.out _; (with_reducible repeat (first | refine uH ?_ _ | refine uJ ?_ | refine uG ?_ _)); exact BK195.out⟩, ⟨pb HB⟩⟩
      ·rw [if_neg c27] at H
       have c27b0 : decide (x7_2 < a1) = false := decide_eq_false c27
       clear c27
       simp only [Option.some.injEq, Prod.mk.injEq] at H
       obtain ⟨rfl, rfl, rfl, rfl, rfl⟩ := H
       have hnb59 := NB194_195.out
       have hnc59 := NB195_194.out
       obtain ⟨hcz60_0, hcz60_1, hcz60_2, hcz60_3, hfz60_0, hfz60_1, hfz60_2, hfz60_3⟩ := cz4 BK194
       obtain ⟨hcz61_0, hcz61_1, hcz61_2, hcz61_3, hfz61_0, hfz61_1, hfz61_2, hfz61_3⟩ := cz4 BK195
       obtain ⟨Ao62, co62, eo62⟩ := Kd.R_slice HO_195003.out
       subst eo62
       go_wp2
       refine bodyPost_ret (uR rfl _ _ gb195 29 #[.int .i64 x195000_2, .int .i64 x195001_2, .bool x195002_2, .slice Ao62 x195003_2.length co62] (0, 0) _ rfl (by (with_reducible repeat (first | refine uH ?_ _ | refine uJ ?_ | refine uG ?_ _)); refine uP (cs := #[.int .i64 x195000_2, .int .i64 x195001_2, .bool x195002_2, .slice none 0 0]) ?_ 3 _ rfl; (with_reducible repeat (first | refine uH ?_ _ | refine uJ ?_ | refine uG ?_ _)); refine uP (cs := #[.int .i64 x195000_2, .int .i64 x195001_2, .bool false, .slice none 0 0]) ?_ 2 _ rfl; (with_reducible repeat (first | refine uH ?_ _ | refine uJ ?_ | refine uG ?_ _)); refine uP (cs := #[.int .i64 x195000_2, .int .i64 0, .bool false, .slice none 0 0]) ?_ 1 _ rfl; (with_reducible repeat (first | refine uH ?_ _ | refine uJ ?_ | refine uG ?_ _)); refine uP (cs := #[.int .i64 0, .int .i64 0, .bool false, .slice none 0 0]) ?_ 0 _ rfl; (with_reducible repeat (first | refine uH ?_ _ | refine uJ ?_ | refine uG ?_ _)); exact BK195.out) Try.underlying29 rfl (by kernel_rfl)) rfl ?_
       exact ⟨_, _, by first | rfl | (simp [errW_none, errW_some] <;> rfl) | (simp [*, errW_none, errW_some] <;> rfl), by (with_reducible repeat (first | apply uU | apply uS | apply uT)); exact uX (uV (p := ⟨gb195, 3, none⟩) (uV (p := ⟨gb195, 2, none⟩) (uV (p := ⟨gb195, 1, none⟩) (uV (p := ⟨gb195, 0, none⟩) (uW HO_195003.out BK195.out (by decide)) (fun _ hk => hk.2) (.int .i64 x195000_2)) (fun _ hk => hk.2) (.int .i64 x195001_2)) (fun _ hk => hk.2) (.bool x195002_2)) (fun _ hk => hk.2) (.slice Ao62 x195003_2.length co62)) (fun _ hk => trivial), by (with_reducible repeat (first | apply uU | apply uS | apply uT)); exact uX (uV (p := ⟨gb195, 3, none⟩) (uV (p := ⟨gb195, 2, none⟩) (uV (p := ⟨gb195, 1, none⟩) (uV (p := ⟨gb195, 0, none⟩) (uW HO_6.out BK195.out (by decide)) (fun _ hk => hk.2) (.int .i64 x195000_2)) (fun _ hk => hk.2) (.int .i64 x195001_2)) (fun _ hk => hk.2) (.bool x195002_2)) (fun _ hk => hk.2) (.slice Ao62 x195003_2.length co62)) (fun _ hk => trivial), pb HB⟩

-- NOT PRINTED: function 76 (impl_Item_76)

-- NOT PRINTED: function 69 (impl_Item_69)

end Go.Proofs.Ytbdjbdoelbmjcaa.PFnExactRun
