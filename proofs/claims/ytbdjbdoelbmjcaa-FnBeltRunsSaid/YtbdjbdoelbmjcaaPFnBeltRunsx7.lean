-- Written by a program of this session (wip/myprint.py: the kit's print with changes): not by print.sh itself.
import Derived.Test.YtbdjbdoelbmjcaaPFnBeltRunsx0
import Derived.Test.YtbdjbdoelbmjcaaPFnBeltRunsx3
import Derived.Test.YtbdjbdoelbmjcaaPFnBeltRunsx6
namespace Go.Proofs.Ytbdjbdoelbmjcaa.PFnBeltRuns
open Go.RowKit Go.Proofs.YtbdjbdoelbmjcaaW.PrintWords Go.Proofs.YtbdjbdoelbmjcaaW.PrintLast Go.Proofs.YtbdjbdoelbmjcaaW.PrintMore
open Go renaming Act.put → uc
open Go.Proofs.YtbdjbdoelbmjcaaW.PrintLast renaming i64_w → uZ
open Go.Proofs.YtbdjbdoelbmjcaaW.PrintWords renaming Aside0.mk → uD, pw_below_drewN → uE, blk_cell → uF, blk_alloc → uG, blk_drewN → uH, blk_frozen → uI, blk_drew → uJ, below_drew1 → uK, below_alloc → uL, below_set → uM, below_size → uN, below_step → uO, blk_put → uP, blk_far → uQ, results_ct → uR, Kd.R_drewN → uS, Kd.R_drew → uT, Kd.R_alloc → uU, Kd.R_far → uV, Kd.R_types → uW, Kd.R_mono → uX
open List renaming setIfInBounds_toArray → uA, set_cons_zero → uB, set_cons_succ → uC
attribute [local go_sem] max2_int min2_int max_two min_two max_three min_three max_four min_four   -- for this text's walks alone
set_option linter.unusedVariables false
set_option linter.unusedSimpArgs false

/-! ### spec_l02Step: function 52 -/
def spec_l02Step.l0 : Nat → List (S53) → Int → Int → Int → Bool → List (S53) → Option (Int × Int × Bool × (List (S53)))
 | 0, _, _, _, _, _, _ => none
 | k + 1, x3, x4, x149000, x149001, x149002, x149003 => if x4 < (x3.length : Int) then (if x4 > 0 then (if 0 ≤ (wrap64 (x4 - 1)) then (if (wrap64 (x4 - 1)) < (x3.length : Int) then (if 0 ≤ x4 then (if ((rd_T53 x3 x4).f1) < (wrap64 ((wrap64 (((rd_T53 x3 (wrap64 (x4 - 1))).f1) - ((rd_T53 x3 (wrap64 (x4 - 1))).f2))) - x149001)) then (spec_l02Step.l0 k (x3.set (x4 : Int).toNat (⟨(rd_T53 x3 x4).f0, wrap64 (((rd_T53 x3 x4).f1) + 1), (rd_T53 x3 x4).f2⟩ : S53)) (wrap64 (x4 + 1)) x149000 x149001 x149002 x149003) else (spec_l02Step.l0 k x3 (wrap64 (x4 + 1)) x149000 x149001 x149002 x149003)) else (none)) else (none)) else (none)) else (if 0 ≤ x4 then (if ((rd_T53 x3 x4).f1) < x149000 then (spec_l02Step.l0 k (x3.set (x4 : Int).toNat (⟨(rd_T53 x3 x4).f0, wrap64 (((rd_T53 x3 x4).f1) + 1), (rd_T53 x3 x4).f2⟩ : S53)) (wrap64 (x4 + 1)) x149000 x149001 x149002 x149003) else (spec_l02Step.l0 k x3 (wrap64 (x4 + 1)) x149000 x149001 x149002 x149003)) else (none))) else (some (x149000, x149001, x149002, x3))
def spec_l02Step.f (k : Nat) (a0_0 : Int) (a0_1 : Int) (a0_2 : Bool) (l0_3 : List (S53)) : Option (Int × Int × Bool × (List (S53))) := (some (([] : List (S53)) : List (S53))).bind fun y150 => (if y150.length + l0_3.length < 5864062014805 then (spec_l02Step.l0 k (y150 ++ l0_3) 0 a0_0 a0_1 a0_2 l0_3) else (none))
theorem spec_l02Step.mono_l : ∀ k, (∀ y0 y1 y2 y3 y4 y5, LeO (spec_l02Step.l0 k y0 y1 y2 y3 y4 y5) (spec_l02Step.l0 (k + 1) y0 y1 y2 y3 y4 y5))
 | 0 => fun _ _ _ _ _ _ r h => by simp [spec_l02Step.l0] at h
 | k + 1 => by
  have ih0 := spec_l02Step.mono_l k
  ·intro y0 y1 y2 y3 y4 y5
   unfold spec_l02Step.l0
   repeat' first
   | (with_reducible exact ih0 _ _ _ _ _ _)
   | (with_reducible exact LeO.refl _)
   | (with_reducible exact LeO.none _)
   | (with_reducible refine LeO.ite ?_ ?_)
   | (with_reducible refine LeO.bind ?_ (fun _ => ?_))
   | exact ih0 _ _ _ _ _ _
   | exact LeO.none _
   | refine LeO.ite ?_ ?_
   | refine LeO.bind ?_ (fun _ => ?_)
theorem spec_l02Step.mono : ∀ a0 a1 a2 a3 k, LeO (spec_l02Step.f k a0 a1 a2 a3) (spec_l02Step.f (k + 1) a0 a1 a2 a3) := by
 intro a0 a1 a2 a3 k
 have ih0 := spec_l02Step.mono_l k
 unfold spec_l02Step.f
 repeat' first
   | (with_reducible exact ih0 _ _ _ _ _ _)
   | (with_reducible exact LeO.refl _)
   | (with_reducible exact LeO.none _)
   | (with_reducible refine LeO.ite ?_ ?_)
   | (with_reducible refine LeO.bind ?_ (fun _ => ?_))
   | exact ih0 _ _ _ _ _ _
   | exact LeO.none _
   | refine LeO.ite ?_ ?_
   | refine LeO.bind ?_ (fun _ => ?_)
set_option maxHeartbeats 8000000 in
set_option maxRecDepth 100000 in
theorem spec_l02Step.calls (k : Nat) (a0_0 : Int) (a0_1 : Int) (a0_2 : Bool) (A0_3 : Option Addr) (c0_3 : Nat) (l0_3 : List (S53)) (r1 : Int) (r2 : Int) (r3 : Bool) (r4 : List (S53)) (w : World) (hr0_3 : Kd.C k53 w A0_3 l0_3.length l0_3) (hc0_3 : l0_3.length ≤ c0_3) (h : spec_l02Step.f k a0_0 a0_1 a0_2 l0_3 = some (r1, r2, r3, r4)) :
  Calls Try.prog 52 #[.agg #[.int .i64 a0_0, .int .i64 a0_1, .bool a0_2, .slice A0_3 l0_3.length c0_3]] w fun e w' => ∃ v3_ : Value, e = .returned (.agg #[.int .i64 r1, .int .i64 r2, .bool r3, v3_]) ∧ Kd.R k53 53 w' w.heap.size (fun _ => True) v3_ r4 ∧ Below w.heap.size w w' := by
 have hu29 := Try.underlying29
 have HR0_3 := uD hr0_3
 have HC0_3 := uD hc0_3
 clear hr0_3 hc0_3
 have HB := uD (Below.refl w.heap.size w)
 have H : ((some (([] : List (S53)) : List (S53))).bind fun y150 => (if y150.length + l0_3.length < 5864062014805 then (spec_l02Step.l0 k (y150 ++ l0_3) 0 a0_0 a0_1 a0_2 l0_3) else (none))) = some (r1, r2, r3, r4) := h
 clear h
 obtain ⟨y150, hy150⟩ : ∃ y_ : List (S53), y_ = (([] : List (S53))) := ⟨_, rfl⟩
 replace H : (if y150.length + l0_3.length < 5864062014805 then (spec_l02Step.l0 k (y150 ++ l0_3) 0 a0_0 a0_1 a0_2 l0_3) else (none)) = some (r1, r2, r3, r4) := by first | (rw [hy150]; with_reducible exact H) | (have H2_ := (Option.bind_some _ _).symm.trans H; rw [hy150]; with_reducible exact H2_) | (have H2_ := (Option.bind_some _ _).symm.trans H; with_reducible exact H2_) | with_reducible exact H | (rw [hy150]; exact H) | exact H
 have Ny150 := uD hy150
 clear hy150
 by_cases c2 : y150.length + l0_3.length < 5864062014805
 ·rw [if_pos c2] at H
  have LMc2 := uD c2
  clear c2
  obtain ⟨y153, hy153⟩ : ∃ y_ : List (S53), y_ = (y150 ++ l0_3) := ⟨_, rfl⟩
  replace H : (spec_l02Step.l0 k y153 0 a0_0 a0_1 a0_2 l0_3) = some (r1, r2, r3, r4) := by first | (rw [hy153]; with_reducible exact H) | (have H2_ := (Option.bind_some _ _).symm.trans H; rw [hy153]; with_reducible exact H2_) | (have H2_ := (Option.bind_some _ _).symm.trans H; with_reducible exact H2_) | with_reducible exact H | (rw [hy153]; exact H) | exact H
  have Ny153 := uD hy153
  clear hy153
  have H' := uD H
  clear H
  go_enter Try.func52, Try.ntmps52
  go_wp2_with (first | ((with_reducible refine gate_dst (N := 1) rfl ?_); refine box_event ?hg (N := 1) ?hd (cs := #[.int .i64 a0_0, .int .i64 a0_1, .bool a0_2, .slice A0_3 l0_3.length c0_3]) (t := 29) ?hr ?_; (case hd => rfl); (case hg => rfl); (case hr => first | (go_simp; done) | (go_simp; rfl)); intro gb148 hg w3 hbox hb; have BK148 := uD (hbox); have GW148 := uD ((by rw [hg]; exact (uN (by repeat (first | (with_reducible first | exact HB.out | apply uL | apply uE | apply uK) | exact HB.out))) : w.heap.size ≤ gb148)); have GE148 := uD ((by rw [hg]; exact (uN (by repeat (first | (with_reducible first | exact HB.out | apply uL | apply uE | apply uK) | exact HB.out))) : w.heap.size ≤ gb148)); replace HB := uD (uO (by repeat (first | (with_reducible first | exact HB.out | apply uL | apply uE | apply uK) | exact HB.out)) hb); clear hb hbox hg) | ((with_reducible refine gate_dst (N := 2) rfl ?_); refine box_event ?hg (N := 2) ?hd (cs := #[.int .i64 0, .int .i64 0, .bool false, .slice none 0 0]) (t := 29) ?hr ?_; (case hd => rfl); (case hg => rfl); (case hr => first | (go_simp; done) | (go_simp; rfl)); intro gb149 hg w4 hbox hb; have BK149 := uD (hbox); have GW149 := uD ((by rw [hg]; exact (uN (by repeat (first | (with_reducible first | exact HB.out | apply uL | apply uE | apply uK | refine uM ?_ GE148.out) | exact HB.out))) : w.heap.size ≤ gb149)); have GE149 := uD ((by rw [hg]; exact (uN (by repeat (first | (with_reducible first | exact HB.out | apply uL | apply uE | apply uK | refine uM ?_ GE148.out) | exact HB.out))) : w.heap.size ≤ gb149)); replace HB := uD (uO (by repeat (first | (with_reducible first | exact HB.out | apply uL | apply uE | apply uK | refine uM ?_ GE148.out) | exact HB.out)) hb); have NB148_149 := uD ((by rw [hg]; exact Nat.ne_of_lt (blk_lt (g := gb148) (o := .cells #[.int .i64 a0_0, .int .i64 a0_1, .bool a0_2, .slice A0_3 l0_3.length c0_3] 29 (0, 0)) (by (with_reducible repeat (first | refine uH ?_ _ | refine uJ ?_ | refine uG ?_ _)); exact BK148.out)) : gb148 ≠ gb149)); have NB149_148 := uD ((by rw [hg]; exact Nat.ne_of_gt (blk_lt (g := gb148) (o := .cells #[.int .i64 a0_0, .int .i64 a0_1, .bool a0_2, .slice A0_3 l0_3.length c0_3] 29 (0, 0)) (by (with_reducible repeat (first | refine uH ?_ _ | refine uJ ?_ | refine uG ?_ _)); exact BK148.out)) : gb149 ≠ gb148)); replace BK148 := uD (blk_below (g := gb148) (o := .cells #[.int .i64 a0_0, .int .i64 a0_1, .bool a0_2, .slice A0_3 l0_3.length c0_3] 29 (0, 0)) (by (with_reducible repeat (first | refine uH ?_ _ | refine uJ ?_ | refine uG ?_ _)); exact BK148.out) hb); clear hb hbox hg) | ((with_reducible refine gate_dst (N := 6) rfl ?_); refine Kd.R_lit k53 _ 53 ?hg (N := 6) ?hd (xs := ([] : List (S53))) (inner := []) (ok := fun _ => True) (okp := fun _ => True) ?hr ?hp (fun _ hk => hk) trivial (Below.refl _ _) (Nat.le_refl _) (by simp) ?_; (case hd => rfl); (case hg => rfl); (case hr => first | (go_simp; done) | (go_simp; rfl)); (case hp => exact (Reps.none _ _)); intro v151 w5 ho6 hb hg_ hnew_; clear hg_ hnew_; (first | rw [← Ny150.out] at ho6 | (simp only [Int.reduceToNat] at ho6; rw [← Ny150.out] at ho6)); have HO152 := uD (Kd.R_lower ho6 (uN (by repeat (first | (with_reducible first | exact HB.out | apply uL | apply uE | apply uK | refine uM ?_ GE148.out | refine uM ?_ GE149.out) | exact HB.out)))); replace BK148 := uD (blk_below (g := gb148) (o := .cells #[.int .i64 a0_0, .int .i64 a0_1, .bool a0_2, .slice A0_3 l0_3.length c0_3] 29 (0, 0)) (by (with_reducible repeat (first | refine uH ?_ _ | refine uJ ?_ | refine uG ?_ _)); exact BK148.out) hb); replace BK149 := uD (blk_below (g := gb149) (o := .cells #[.int .i64 0, .int .i64 0, .bool false, .slice none 0 0] 29 (0, 0)) (by (with_reducible repeat (first | refine uH ?_ _ | refine uJ ?_ | refine uG ?_ _)); exact BK149.out) hb); replace HB := uD (uO (by repeat (first | (with_reducible first | exact HB.out | apply uL | apply uE | apply uK | refine uM ?_ GE148.out | refine uM ?_ GE149.out) | exact HB.out)) hb); clear hb ho6; have hnb7 := NB148_149.out; have hnc7 := NB149_148.out; have hcz8_0 : w5.cell? ⟨gb148, 0, none⟩ = some (.int .i64 a0_0) := (uF BK148.out 0).trans rfl; have hcz8_1 : w5.cell? ⟨gb148, 1, none⟩ = some (.int .i64 a0_1) := (uF BK148.out 1).trans rfl; have hcz8_2 : w5.cell? ⟨gb148, 2, none⟩ = some (.bool a0_2) := (uF BK148.out 2).trans rfl; have hcz8_3 : w5.cell? ⟨gb148, 3, none⟩ = some (.slice A0_3 l0_3.length c0_3) := (uF BK148.out 3).trans rfl; have hfz8_0 := uI BK148.out 0; have hfz8_1 := uI BK148.out 1; have hfz8_2 := uI BK148.out 2; have hfz8_3 := uI BK148.out 3) | ((with_reducible refine gate_builtin (b := .append) (xs := #[.tmp 6, .tmp 8]) rfl ?_); at_builtin; refine Kd.R_append_rows k53 (w0 := w) w.heap.size rfl (.tmp 6) (.tmp 8) 27 53 (.agg #[(.int .i64 0), (.int .i64 0), (.int .i64 0)]) 24 rfl Try.underlying27 info53 rfl (by decide) (by omega) v151 y150 l0_3 _ _ _ (fun _ => True) (fun _ => False) rfl rfl ?aO ?aR (fun _ _ h => h) (fun _ h => h.elim) ?aF ?aB ?aS ?aL ?_; (case aR => repeat (first | exact (Kd.C_below HR0_3.out HB.out) | (with_reducible refine Kd.C_alloc ?_ _) | (with_reducible refine Kd.C_drewN ?_ _) | (with_reducible refine Kd.C_drew ?_))); (case aB => exact (by repeat (first | (with_reducible first | exact HB.out | apply uL | apply uE | apply uK | refine uM ?_ GE148.out | refine uM ?_ GE149.out) | exact HB.out))); (case aF => exact (fun _ _ => trivial)); (case aO => exact (by (with_reducible repeat (first | apply uU | apply uS | apply uT)); exact HO152.out)); (case aS => exact (uN (by repeat (first | (with_reducible first | exact HB.out | apply uL | apply uE | apply uK | refine uM ?_ GE148.out | refine uM ?_ GE149.out) | exact HB.out)))); (case aL => have := LMc2.out; omega); intro v154 w9 ho hb hg hat; rw [← Ny153.out] at ho; replace BK148 := uD (blk_grown (g := gb148) (o := .cells #[.int .i64 a0_0, .int .i64 a0_1, .bool a0_2, .slice A0_3 l0_3.length c0_3] 29 (0, 0)) (by (with_reducible repeat (first | refine uH ?_ _ | refine uJ ?_ | refine uG ?_ _)); exact BK148.out) hg (Kd.R_ne HO152.out BK148.out (by decide))); replace BK149 := uD (blk_grown (g := gb149) (o := .cells #[.int .i64 0, .int .i64 0, .bool false, .slice none 0 0] 29 (0, 0)) (by (with_reducible repeat (first | refine uH ?_ _ | refine uJ ?_ | refine uG ?_ _)); exact BK149.out) hg (Kd.R_ne HO152.out BK149.out (by decide))); replace HB := uD (hb); have HO155 := uD (ho); clear HO152; clear ho hb hg hat))
  repeat (go_quiet (first | ((with_reducible refine gate_dst (N := 1) rfl ?_); refine box_event ?hg (N := 1) ?hd (cs := #[.int .i64 a0_0, .int .i64 a0_1, .bool a0_2, .slice A0_3 l0_3.length c0_3]) (t := 29) ?hr ?_; (case hd => rfl); (case hg => rfl); (case hr => first | (go_simp; done) | (go_simp; rfl)); intro gb148 hg w3 hbox hb; have BK148 := uD (hbox); have GW148 := uD ((by rw [hg]; exact (uN (by repeat (first | (with_reducible first | exact HB.out | apply uL | apply uE | apply uK) | exact HB.out))) : w.heap.size ≤ gb148)); have GE148 := uD ((by rw [hg]; exact (uN (by repeat (first | (with_reducible first | exact HB.out | apply uL | apply uE | apply uK) | exact HB.out))) : w.heap.size ≤ gb148)); replace HB := uD (uO (by repeat (first | (with_reducible first | exact HB.out | apply uL | apply uE | apply uK) | exact HB.out)) hb); clear hb hbox hg) | ((with_reducible refine gate_dst (N := 2) rfl ?_); refine box_event ?hg (N := 2) ?hd (cs := #[.int .i64 0, .int .i64 0, .bool false, .slice none 0 0]) (t := 29) ?hr ?_; (case hd => rfl); (case hg => rfl); (case hr => first | (go_simp; done) | (go_simp; rfl)); intro gb149 hg w4 hbox hb; have BK149 := uD (hbox); have GW149 := uD ((by rw [hg]; exact (uN (by repeat (first | (with_reducible first | exact HB.out | apply uL | apply uE | apply uK | refine uM ?_ GE148.out) | exact HB.out))) : w.heap.size ≤ gb149)); have GE149 := uD ((by rw [hg]; exact (uN (by repeat (first | (with_reducible first | exact HB.out | apply uL | apply uE | apply uK | refine uM ?_ GE148.out) | exact HB.out))) : w.heap.size ≤ gb149)); replace HB := uD (uO (by repeat (first | (with_reducible first | exact HB.out | apply uL | apply uE | apply uK | refine uM ?_ GE148.out) | exact HB.out)) hb); have NB148_149 := uD ((by rw [hg]; exact Nat.ne_of_lt (blk_lt (g := gb148) (o := .cells #[.int .i64 a0_0, .int .i64 a0_1, .bool a0_2, .slice A0_3 l0_3.length c0_3] 29 (0, 0)) (by (with_reducible repeat (first | refine uH ?_ _ | refine uJ ?_ | refine uG ?_ _)); exact BK148.out)) : gb148 ≠ gb149)); have NB149_148 := uD ((by rw [hg]; exact Nat.ne_of_gt (blk_lt (g := gb148) (o := .cells #[.int .i64 a0_0, .int .i64 a0_1, .bool a0_2, .slice A0_3 l0_3.length c0_3] 29 (0, 0)) (by (with_reducible repeat (first | refine uH ?_ _ | refine uJ ?_ | refine uG ?_ _)); exact BK148.out)) : gb149 ≠ gb148)); replace BK148 := uD (blk_below (g := gb148) (o := .cells #[.int .i64 a0_0, .int .i64 a0_1, .bool a0_2, .slice A0_3 l0_3.length c0_3] 29 (0, 0)) (by (with_reducible repeat (first | refine uH ?_ _ | refine uJ ?_ | refine uG ?_ _)); exact BK148.out) hb); clear hb hbox hg) | ((with_reducible refine gate_dst (N := 6) rfl ?_); refine Kd.R_lit k53 _ 53 ?hg (N := 6) ?hd (xs := ([] : List (S53))) (inner := []) (ok := fun _ => True) (okp := fun _ => True) ?hr ?hp (fun _ hk => hk) trivial (Below.refl _ _) (Nat.le_refl _) (by simp) ?_; (case hd => rfl); (case hg => rfl); (case hr => first | (go_simp; done) | (go_simp; rfl)); (case hp => exact (Reps.none _ _)); intro v151 w5 ho6 hb hg_ hnew_; clear hg_ hnew_; (first | rw [← Ny150.out] at ho6 | (simp only [Int.reduceToNat] at ho6; rw [← Ny150.out] at ho6)); have HO152 := uD (Kd.R_lower ho6 (uN (by repeat (first | (with_reducible first | exact HB.out | apply uL | apply uE | apply uK | refine uM ?_ GE148.out | refine uM ?_ GE149.out) | exact HB.out)))); replace BK148 := uD (blk_below (g := gb148) (o := .cells #[.int .i64 a0_0, .int .i64 a0_1, .bool a0_2, .slice A0_3 l0_3.length c0_3] 29 (0, 0)) (by (with_reducible repeat (first | refine uH ?_ _ | refine uJ ?_ | refine uG ?_ _)); exact BK148.out) hb); replace BK149 := uD (blk_below (g := gb149) (o := .cells #[.int .i64 0, .int .i64 0, .bool false, .slice none 0 0] 29 (0, 0)) (by (with_reducible repeat (first | refine uH ?_ _ | refine uJ ?_ | refine uG ?_ _)); exact BK149.out) hb); replace HB := uD (uO (by repeat (first | (with_reducible first | exact HB.out | apply uL | apply uE | apply uK | refine uM ?_ GE148.out | refine uM ?_ GE149.out) | exact HB.out)) hb); clear hb ho6; have hnb7 := NB148_149.out; have hnc7 := NB149_148.out; have hcz8_0 : w5.cell? ⟨gb148, 0, none⟩ = some (.int .i64 a0_0) := (uF BK148.out 0).trans rfl; have hcz8_1 : w5.cell? ⟨gb148, 1, none⟩ = some (.int .i64 a0_1) := (uF BK148.out 1).trans rfl; have hcz8_2 : w5.cell? ⟨gb148, 2, none⟩ = some (.bool a0_2) := (uF BK148.out 2).trans rfl; have hcz8_3 : w5.cell? ⟨gb148, 3, none⟩ = some (.slice A0_3 l0_3.length c0_3) := (uF BK148.out 3).trans rfl; have hfz8_0 := uI BK148.out 0; have hfz8_1 := uI BK148.out 1; have hfz8_2 := uI BK148.out 2; have hfz8_3 := uI BK148.out 3) | ((with_reducible refine gate_builtin (b := .append) (xs := #[.tmp 6, .tmp 8]) rfl ?_); at_builtin; refine Kd.R_append_rows k53 (w0 := w) w.heap.size rfl (.tmp 6) (.tmp 8) 27 53 (.agg #[(.int .i64 0), (.int .i64 0), (.int .i64 0)]) 24 rfl Try.underlying27 info53 rfl (by decide) (by omega) v151 y150 l0_3 _ _ _ (fun _ => True) (fun _ => False) rfl rfl ?aO ?aR (fun _ _ h => h) (fun _ h => h.elim) ?aF ?aB ?aS ?aL ?_; (case aR => repeat (first | exact (Kd.C_below HR0_3.out HB.out) | (with_reducible refine Kd.C_alloc ?_ _) | (with_reducible refine Kd.C_drewN ?_ _) | (with_reducible refine Kd.C_drew ?_))); (case aB => exact (by repeat (first | (with_reducible first | exact HB.out | apply uL | apply uE | apply uK | refine uM ?_ GE148.out | refine uM ?_ GE149.out) | exact HB.out))); (case aF => exact (fun _ _ => trivial)); (case aO => exact (by (with_reducible repeat (first | apply uU | apply uS | apply uT)); exact HO152.out)); (case aS => exact (uN (by repeat (first | (with_reducible first | exact HB.out | apply uL | apply uE | apply uK | refine uM ?_ GE148.out | refine uM ?_ GE149.out) | exact HB.out)))); (case aL => have := LMc2.out; omega); intro v154 w9 ho hb hg hat; rw [← Ny153.out] at ho; replace BK148 := uD (blk_grown (g := gb148) (o := .cells #[.int .i64 a0_0, .int .i64 a0_1, .bool a0_2, .slice A0_3 l0_3.length c0_3] 29 (0, 0)) (by (with_reducible repeat (first | refine uH ?_ _ | refine uJ ?_ | refine uG ?_ _)); exact BK148.out) hg (Kd.R_ne HO152.out BK148.out (by decide))); replace BK149 := uD (blk_grown (g := gb149) (o := .cells #[.int .i64 0, .int .i64 0, .bool false, .slice none 0 0] 29 (0, 0)) (by (with_reducible repeat (first | refine uH ?_ _ | refine uJ ?_ | refine uG ?_ _)); exact BK149.out) hg (Kd.R_ne HO152.out BK149.out (by decide))); replace HB := uD (hb); have HO155 := uD (ho); clear HO152; clear ho hb hg hat)); try go_wp2_with (first | ((with_reducible refine gate_dst (N := 1) rfl ?_); refine box_event ?hg (N := 1) ?hd (cs := #[.int .i64 a0_0, .int .i64 a0_1, .bool a0_2, .slice A0_3 l0_3.length c0_3]) (t := 29) ?hr ?_; (case hd => rfl); (case hg => rfl); (case hr => first | (go_simp; done) | (go_simp; rfl)); intro gb148 hg w3 hbox hb; have BK148 := uD (hbox); have GW148 := uD ((by rw [hg]; exact (uN (by repeat (first | (with_reducible first | exact HB.out | apply uL | apply uE | apply uK) | exact HB.out))) : w.heap.size ≤ gb148)); have GE148 := uD ((by rw [hg]; exact (uN (by repeat (first | (with_reducible first | exact HB.out | apply uL | apply uE | apply uK) | exact HB.out))) : w.heap.size ≤ gb148)); replace HB := uD (uO (by repeat (first | (with_reducible first | exact HB.out | apply uL | apply uE | apply uK) | exact HB.out)) hb); clear hb hbox hg) | ((with_reducible refine gate_dst (N := 2) rfl ?_); refine box_event ?hg (N := 2) ?hd (cs := #[.int .i64 0, .int .i64 0, .bool false, .slice none 0 0]) (t := 29) ?hr ?_; (case hd => rfl); (case hg => rfl); (case hr => first | (go_simp; done) | (go_simp; rfl)); intro gb149 hg w4 hbox hb; have BK149 := uD (hbox); have GW149 := uD ((by rw [hg]; exact (uN (by repeat (first | (with_reducible first | exact HB.out | apply uL | apply uE | apply uK | refine uM ?_ GE148.out) | exact HB.out))) : w.heap.size ≤ gb149)); have GE149 := uD ((by rw [hg]; exact (uN (by repeat (first | (with_reducible first | exact HB.out | apply uL | apply uE | apply uK | refine uM ?_ GE148.out) | exact HB.out))) : w.heap.size ≤ gb149)); replace HB := uD (uO (by repeat (first | (with_reducible first | exact HB.out | apply uL | apply uE | apply uK | refine uM ?_ GE148.out) | exact HB.out)) hb); have NB148_149 := uD ((by rw [hg]; exact Nat.ne_of_lt (blk_lt (g := gb148) (o := .cells #[.int .i64 a0_0, .int .i64 a0_1, .bool a0_2, .slice A0_3 l0_3.length c0_3] 29 (0, 0)) (by (with_reducible repeat (first | refine uH ?_ _ | refine uJ ?_ | refine uG ?_ _)); exact BK148.out)) : gb148 ≠ gb149)); have NB149_148 := uD ((by rw [hg]; exact Nat.ne_of_gt (blk_lt (g := gb148) (o := .cells #[.int .i64 a0_0, .int .i64 a0_1, .bool a0_2, .slice A0_3 l0_3.length c0_3] 29 (0, 0)) (by (with_reducible repeat (first | refine uH ?_ _ | refine uJ ?_ | refine uG ?_ _)); exact BK148.out)) : gb149 ≠ gb148)); replace BK148 := uD (blk_below (g := gb148) (o := .cells #[.int .i64 a0_0, .int .i64 a0_1, .bool a0_2, .slice A0_3 l0_3.length c0_3] 29 (0, 0)) (by (with_reducible repeat (first | refine uH ?_ _ | refine uJ ?_ | refine uG ?_ _)); exact BK148.out) hb); clear hb hbox hg) | ((with_reducible refine gate_dst (N := 6) rfl ?_); refine Kd.R_lit k53 _ 53 ?hg (N := 6) ?hd (xs := ([] : List (S53))) (inner := []) (ok := fun _ => True) (okp := fun _ => True) ?hr ?hp (fun _ hk => hk) trivial (Below.refl _ _) (Nat.le_refl _) (by simp) ?_; (case hd => rfl); (case hg => rfl); (case hr => first | (go_simp; done) | (go_simp; rfl)); (case hp => exact (Reps.none _ _)); intro v151 w5 ho6 hb hg_ hnew_; clear hg_ hnew_; (first | rw [← Ny150.out] at ho6 | (simp only [Int.reduceToNat] at ho6; rw [← Ny150.out] at ho6)); have HO152 := uD (Kd.R_lower ho6 (uN (by repeat (first | (with_reducible first | exact HB.out | apply uL | apply uE | apply uK | refine uM ?_ GE148.out | refine uM ?_ GE149.out) | exact HB.out)))); replace BK148 := uD (blk_below (g := gb148) (o := .cells #[.int .i64 a0_0, .int .i64 a0_1, .bool a0_2, .slice A0_3 l0_3.length c0_3] 29 (0, 0)) (by (with_reducible repeat (first | refine uH ?_ _ | refine uJ ?_ | refine uG ?_ _)); exact BK148.out) hb); replace BK149 := uD (blk_below (g := gb149) (o := .cells #[.int .i64 0, .int .i64 0, .bool false, .slice none 0 0] 29 (0, 0)) (by (with_reducible repeat (first | refine uH ?_ _ | refine uJ ?_ | refine uG ?_ _)); exact BK149.out) hb); replace HB := uD (uO (by repeat (first | (with_reducible first | exact HB.out | apply uL | apply uE | apply uK | refine uM ?_ GE148.out | refine uM ?_ GE149.out) | exact HB.out)) hb); clear hb ho6; have hnb7 := NB148_149.out; have hnc7 := NB149_148.out; have hcz8_0 : w5.cell? ⟨gb148, 0, none⟩ = some (.int .i64 a0_0) := (uF BK148.out 0).trans rfl; have hcz8_1 : w5.cell? ⟨gb148, 1, none⟩ = some (.int .i64 a0_1) := (uF BK148.out 1).trans rfl; have hcz8_2 : w5.cell? ⟨gb148, 2, none⟩ = some (.bool a0_2) := (uF BK148.out 2).trans rfl; have hcz8_3 : w5.cell? ⟨gb148, 3, none⟩ = some (.slice A0_3 l0_3.length c0_3) := (uF BK148.out 3).trans rfl; have hfz8_0 := uI BK148.out 0; have hfz8_1 := uI BK148.out 1; have hfz8_2 := uI BK148.out 2; have hfz8_3 := uI BK148.out 3) | ((with_reducible refine gate_builtin (b := .append) (xs := #[.tmp 6, .tmp 8]) rfl ?_); at_builtin; refine Kd.R_append_rows k53 (w0 := w) w.heap.size rfl (.tmp 6) (.tmp 8) 27 53 (.agg #[(.int .i64 0), (.int .i64 0), (.int .i64 0)]) 24 rfl Try.underlying27 info53 rfl (by decide) (by omega) v151 y150 l0_3 _ _ _ (fun _ => True) (fun _ => False) rfl rfl ?aO ?aR (fun _ _ h => h) (fun _ h => h.elim) ?aF ?aB ?aS ?aL ?_; (case aR => repeat (first | exact (Kd.C_below HR0_3.out HB.out) | (with_reducible refine Kd.C_alloc ?_ _) | (with_reducible refine Kd.C_drewN ?_ _) | (with_reducible refine Kd.C_drew ?_))); (case aB => exact (by repeat (first | (with_reducible first | exact HB.out | apply uL | apply uE | apply uK | refine uM ?_ GE148.out | refine uM ?_ GE149.out) | exact HB.out))); (case aF => exact (fun _ _ => trivial)); (case aO => exact (by (with_reducible repeat (first | apply uU | apply uS | apply uT)); exact HO152.out)); (case aS => exact (uN (by repeat (first | (with_reducible first | exact HB.out | apply uL | apply uE | apply uK | refine uM ?_ GE148.out | refine uM ?_ GE149.out) | exact HB.out)))); (case aL => have := LMc2.out; omega); intro v154 w9 ho hb hg hat; rw [← Ny153.out] at ho; replace BK148 := uD (blk_grown (g := gb148) (o := .cells #[.int .i64 a0_0, .int .i64 a0_1, .bool a0_2, .slice A0_3 l0_3.length c0_3] 29 (0, 0)) (by (with_reducible repeat (first | refine uH ?_ _ | refine uJ ?_ | refine uG ?_ _)); exact BK148.out) hg (Kd.R_ne HO152.out BK148.out (by decide))); replace BK149 := uD (blk_grown (g := gb149) (o := .cells #[.int .i64 0, .int .i64 0, .bool false, .slice none 0 0] 29 (0, 0)) (by (with_reducible repeat (first | refine uH ?_ _ | refine uJ ?_ | refine uG ?_ _)); exact BK149.out) hg (Kd.R_ne HO152.out BK149.out (by decide))); replace HB := uD (hb); have HO155 := uD (ho); clear HO152; clear ho hb hg hat)))
  go_loopg [4] k (fun kq v4 w' => ∃ (x3_1 : List (S53)) (x4_1 : Int), v4 = .int .i64 x4_1 ∧ Aside0 (spec_l02Step.l0 kq x3_1 x4_1 a0_0 a0_1 a0_2 l0_3 = some (r1, r2, r3, r4)) ∧ Aside0 (kq ≤ k) ∧ Aside0 (Kd.R k53 53 w' w.heap.size (fun _ => True) v154 x3_1) ∧ Aside0 (w'.heap[gb148]? = some (.cells #[.int .i64 a0_0, .int .i64 a0_1, .bool a0_2, (.slice A0_3 l0_3.length c0_3)] 29 (0, 0))) ∧ Aside0 (w'.heap[gb149]? = some (.cells #[.int .i64 0, .int .i64 0, .bool false, (.slice none 0 0)] 29 (0, 0))) ∧ Aside0 (Below w.heap.size w w'))
  case atStart => exact ⟨(y153), (0), (by first | rfl | (simp; done) | (simp [*]; done)), H', ⟨Nat.le_refl _⟩, ⟨by (with_reducible repeat (first | apply uU | apply uS | apply uT)); exact HO155.out⟩, ⟨by (with_reducible repeat (first | refine uH ?_ _ | refine uJ ?_ | refine uG ?_ _)); exact BK148.out⟩, ⟨by (with_reducible repeat (first | refine uH ?_ _ | refine uJ ?_ | refine uG ?_ _)); exact BK149.out⟩, ⟨by repeat (first | (with_reducible first | exact HB.out | apply uL | apply uE | apply uK | refine uM ?_ GE148.out | refine uM ?_ GE149.out) | exact HB.out)⟩⟩
  case round =>
   clear H'
   try clear c2
   try clear p2
   try clear c5
   try clear c7
   try clear hcz8_0
   try clear hcz8_1
   try clear hcz8_2
   try clear hcz8_3
   try clear hfz8_0
   try clear hfz8_1
   try clear hfz8_2
   try clear hfz8_3
   obtain ⟨x3_1, x4_1, rfl, HA, HK1, HO_3, BK148, BK149, HB⟩ := hrel
   cases gk with
   | zero => exact absurd HA.out (by simp [spec_l02Step.l0])
   | succ k1 =>
    have H := HA.out
    clear HA
    simp only [spec_l02Step.l0] at H
    by_cases c10 : x4_1 < (x3_1.length : Int)
    ·rw [if_pos c10] at H
     have c10b0 : decide (x4_1 < (x3_1.length : Int)) = true := decide_eq_true c10
     clear c10
     by_cases c11 : x4_1 > 0
     ·rw [if_pos c11] at H
      have c11b0 : decide (0 < x4_1) = true := decide_eq_true c11
      clear c11
      obtain ⟨ji12, hji12⟩ : ∃ j_ : Int, (wrap64 (x4_1 - 1)) = j_ := ⟨_, rfl⟩
      replace H : (if 0 ≤ (ji12) then (if (ji12) < (x3_1.length : Int) then (if 0 ≤ x4_1 then (if ((rd_T53 x3_1 x4_1).f1) < (wrap64 ((wrap64 (((rd_T53 x3_1 (ji12)).f1) - ((rd_T53 x3_1 (ji12)).f2))) - a0_1)) then (spec_l02Step.l0 k1 (x3_1.set (x4_1 : Int).toNat (⟨(rd_T53 x3_1 x4_1).f0, wrap64 (((rd_T53 x3_1 x4_1).f1) + 1), (rd_T53 x3_1 x4_1).f2⟩ : S53)) (wrap64 (x4_1 + 1)) a0_0 a0_1 a0_2 l0_3) else (spec_l02Step.l0 k1 x3_1 (wrap64 (x4_1 + 1)) a0_0 a0_1 a0_2 l0_3)) else (none)) else (none)) else (none)) = some (r1, r2, r3, r4) := by first | (rw [hji12] at H; exact H) | (simp only [hji12] at H ⊢; exact H)
      have hji12w : (IntKind.i64.wrap (x4_1 - 1)) = ji12 := (uZ _).trans hji12
      by_cases c13 : 0 ≤ (ji12)
      ·rw [if_pos c13] at H
       have c13b0 : decide (0 ≤ (ji12)) = true := decide_eq_true c13
       clear c13
       by_cases c14 : (ji12) < (x3_1.length : Int)
       ·rw [if_pos c14] at H
        have c14b0 : decide ((ji12) < (x3_1.length : Int)) = true := decide_eq_true c14
        clear c14
        by_cases c15 : 0 ≤ x4_1
        ·rw [if_pos c15] at H
         have c15b0 : decide (0 ≤ x4_1) = true := decide_eq_true c15
         clear c15
         by_cases c16 : ((rd_T53 x3_1 x4_1).f1) < (wrap64 ((wrap64 (((rd_T53 x3_1 (ji12)).f1) - ((rd_T53 x3_1 (ji12)).f2))) - a0_1))
         ·rw [if_pos c16] at H
          have c16b0 : decide (((rd_T53 x3_1 x4_1).f1) < (wrap64 ((wrap64 (((rd_T53 x3_1 (ji12)).f1) - ((rd_T53 x3_1 (ji12)).f2))) - a0_1))) = true := decide_eq_true c16
          clear c16
          obtain ⟨y160, hy160⟩ : ∃ y_ : List (S53), y_ = (x3_1.set (x4_1 : Int).toNat (⟨(rd_T53 x3_1 x4_1).f0, wrap64 (((rd_T53 x3_1 x4_1).f1) + 1), (rd_T53 x3_1 x4_1).f2⟩ : S53)) := ⟨_, rfl⟩
          replace H : (spec_l02Step.l0 k1 y160 (wrap64 (x4_1 + 1)) a0_0 a0_1 a0_2 l0_3) = some (r1, r2, r3, r4) := by first | (rw [hy160]; with_reducible exact H) | (have H2_ := (Option.bind_some _ _).symm.trans H; rw [hy160]; with_reducible exact H2_) | (have H2_ := (Option.bind_some _ _).symm.trans H; with_reducible exact H2_) | with_reducible exact H | (rw [hy160]; exact H) | exact H
          have Ny160 := uD hy160
          clear hy160
          have H' := uD H
          clear H
          obtain ⟨Ao18, co18, eo18⟩ := Kd.R_slice HO_3.out
          subst eo18
          have hnb19 := NB148_149.out
          have hnc19 := NB149_148.out
          have hcz20_0 : wr.cell? ⟨gb148, 0, none⟩ = some (.int .i64 a0_0) := (uF BK148.out 0).trans rfl
          have hcz20_1 : wr.cell? ⟨gb148, 1, none⟩ = some (.int .i64 a0_1) := (uF BK148.out 1).trans rfl
          have hcz20_2 : wr.cell? ⟨gb148, 2, none⟩ = some (.bool a0_2) := (uF BK148.out 2).trans rfl
          have hcz20_3 : wr.cell? ⟨gb148, 3, none⟩ = some (.slice A0_3 l0_3.length c0_3) := (uF BK148.out 3).trans rfl
          have hfz20_0 := uI BK148.out 0
          have hfz20_1 := uI BK148.out 1
          have hfz20_2 := uI BK148.out 2
          have hfz20_3 := uI BK148.out 3
          have p156 : 0 ≤ ((ji12) : Int) := of_decide_eq_true (by first | (with_reducible assumption) | assumption)
          have q156 : (ji12) < (x3_1.length : Int) := of_decide_eq_true (by first | (with_reducible assumption) | assumption)
          obtain ⟨ad156, e156, hx156_0, hx156_1, hx156_2⟩ := at_T53 (Kd.R_reads' HO_3.out).2.2 (ji12) p156 q156
          cases e156
          replace p156 := eq_true p156
          replace q156 := eq_true q156
          have p157 : 0 ≤ ((ji12) : Int) := of_decide_eq_true (by first | (with_reducible assumption) | assumption)
          have q157 : (ji12) < (x3_1.length : Int) := of_decide_eq_true (by first | (with_reducible assumption) | assumption)
          obtain ⟨ad157, e157, hx157_0, hx157_1, hx157_2⟩ := at_T53 (Kd.R_reads' HO_3.out).2.2 (ji12) p157 q157
          obtain rfl : ad156 = ad157 := (by injection e157)
          replace p157 := eq_true p157
          replace q157 := eq_true q157
          have p158 : 0 ≤ (x4_1 : Int) := of_decide_eq_true (by first | (with_reducible assumption) | assumption)
          have q158 : x4_1 < (x3_1.length : Int) := of_decide_eq_true (by first | (with_reducible assumption) | assumption)
          obtain ⟨ad158, e158, hx158_0, hx158_1, hx158_2⟩ := at_T53 (Kd.R_reads' HO_3.out).2.2 x4_1 p158 q158
          obtain rfl : ad156 = ad158 := (by injection e158)
          replace p158 := eq_true p158
          replace q158 := eq_true q158
          have p159 : 0 ≤ (x4_1 : Int) := of_decide_eq_true (by first | (with_reducible assumption) | assumption)
          have q159 : x4_1 < (x3_1.length : Int) := of_decide_eq_true (by first | (with_reducible assumption) | assumption)
          obtain ⟨ad159, e159, hx159_0, hx159_1, hx159_2⟩ := at_T53 (Kd.R_reads' HO_3.out).2.2 x4_1 p159 q159
          obtain rfl : ad156 = ad159 := (by injection e159)
          replace p159 := eq_true p159
          replace q159 := eq_true q159
          have p17 : 0 ≤ (x4_1 : Int) := of_decide_eq_true (by first | (with_reducible assumption) | assumption)
          have q17 : (x4_1 : Int) < ((x3_1.length : Int) : Int) := of_decide_eq_true (by first | (with_reducible assumption) | assumption)
          obtain ⟨go17, co17, eo17, gb17, gl17, cl17, HG17⟩ := Kd.R_form HO_3.out (by omega)
          (first | cases eo17 | (injection eo17 with ea_ en_ ec_; (first | subst ea_ | (injection ea_ with ea_; subst ea_)); subst ec_; clear en_))
          have GB17 := uD gb17
          have GG17 := uD HG17
          clear gb17 gl17 HG17
          (first | simp only [add_plain] at hx156_0 | skip)
          (first | simp only [add_plain] at hx156_1 | skip)
          (first | simp only [add_plain] at hx156_2 | skip)
          (first | simp only [add_plain] at hx157_0 | skip)
          (first | simp only [add_plain] at hx157_1 | skip)
          (first | simp only [add_plain] at hx157_2 | skip)
          (first | simp only [add_plain] at hx158_0 | skip)
          (first | simp only [add_plain] at hx158_1 | skip)
          (first | simp only [add_plain] at hx158_2 | skip)
          (first | simp only [add_plain] at hx159_0 | skip)
          (first | simp only [add_plain] at hx159_1 | skip)
          (first | simp only [add_plain] at hx159_2 | skip)
          obtain ⟨ce17, hcl17, hM17, hcc17, hfr17⟩ := Kd.R_elem HO_3.out z53 (x4_1 : Int) p17 q17
          obtain rfl := k53_openM hM17
          have hx17_0 : wr.cell? ⟨go17, (x4_1 : Int).toNat * 3, none⟩ = some (.int .i64 ((rd_T53 x3_1 x4_1).f0)) := hcc17 0 _ rfl
          have hx17_1 : wr.cell? ⟨go17, (x4_1 : Int).toNat * 3 + 1, none⟩ = some (.int .i64 ((rd_T53 x3_1 x4_1).f1)) := hcc17 1 _ rfl
          have hx17_2 : wr.cell? ⟨go17, (x4_1 : Int).toNat * 3 + 2, none⟩ = some (.int .i64 ((rd_T53 x3_1 x4_1).f2)) := hcc17 2 _ rfl
          have hf17_0 : wr.frozen? ⟨go17, (x4_1 : Int).toNat * 3, none⟩ = false := hfr17 0
          have hf17_1 : wr.frozen? ⟨go17, (x4_1 : Int).toNat * 3 + 1, none⟩ = false := hfr17 1
          have hf17_2 : wr.frozen? ⟨go17, (x4_1 : Int).toNat * 3 + 2, none⟩ = false := hfr17 2
          clear hcl17 hcc17 hfr17 hM17
          replace p17 := eq_true p17
          replace q17 := eq_true q17
          have HX21 := uD (show Kd.R k53 53 wr w.heap.size (fun _ => True) (.slice (some ⟨go17, 0, none⟩) x3_1.length co18) x3_1 from (by (with_reducible repeat (first | apply uU | apply uS | apply uT)); exact HO_3.out))
          obtain ⟨ce21, hcl21, hM21, hcc21, hfr21⟩ := Kd.R_elem HX21.out z53 (x4_1 : Int) (of_decide_eq_true (by first | (with_reducible assumption) | assumption)) (by have h_ : (x4_1 : Int) < ((x3_1.length : Int) : Int) := of_decide_eq_true (by first | (with_reducible assumption) | assumption); first | exact h_ | (have e_ := (Kd.R_reads' HO_3.out).1; omega) | simpa using h_)
          obtain rfl := k53_openM hM21
          have HP21 := Kd.R_seg HX21.out (x4_1 : Int) (of_decide_eq_true (by first | (with_reducible assumption) | assumption)) (by have h_ : (x4_1 : Int) < ((x3_1.length : Int) : Int) := of_decide_eq_true (by first | (with_reducible assumption) | assumption); first | exact h_ | (have e_ := (Kd.R_reads' HO_3.out).1; omega) | simpa using h_) (seg := [.int .i64 (wrap64 (((rd_T53 x3_1 x4_1).f1) + 1))]) (j := 1) hcl21 hcc21 (show 2 ≤ 3 from by decide) (x' := (⟨(rd_T53 x3_1 x4_1).f0, wrap64 (((rd_T53 x3_1 x4_1).f1) + 1), (rd_T53 x3_1 x4_1).f2⟩ : S53)) (k53_mkM _ _ _ (⟨(rd_T53 x3_1 x4_1).f0, wrap64 (((rd_T53 x3_1 x4_1).f1) + 1), (rd_T53 x3_1 x4_1).f2⟩ : S53) ) (fun _ hk => hk)
          have hx21_1 := hcc21 1 _ rfl
          (try simp only [show (k53).sz = 3 from rfl, Nat.mul_one, Nat.add_zero] at hx21_1)
          have hf21_1 := hfr21 1
          (try simp only [show (k53).sz = 3 from rfl, Nat.mul_one, Nat.add_zero] at hf21_1)
          clear hcl21 hcc21 hfr21 hM21
          go_wp2_with (first | ((with_reducible refine gate_store (t := 3) (p := 52) rfl ?_); (try (rw [drewN_self wr]; generalize hq_ : World.drewN wr _ = wr; have n0_ := uD (Kd.R_at hq_ HO_3.out); have n1_ := uD (blk_at hq_ BK148.out); have n2_ := uD (blk_at hq_ BK149.out); have n3_ := uD (below_at hq_ HB.out); clear hq_ HO_3 BK148 BK149 HB; have HO_3 := n0_; have BK148 := n1_; have BK149 := n2_; have HB := n3_; clear n0_ n1_ n2_ n3_; (try (have HX21 := uD (show Kd.R k53 53 wr w.heap.size (fun _ => True) (.slice (some ⟨go17, 0, none⟩) x3_1.length co18) x3_1 from (by (with_reducible repeat (first | apply uU | apply uS | apply uT)); exact HO_3.out)))); (try (obtain ⟨ce21, hcl21, hM21, hcc21, hfr21⟩ := Kd.R_elem HX21.out z53 (x4_1 : Int) (of_decide_eq_true (by first | (with_reducible assumption) | assumption)) (by have h_ : (x4_1 : Int) < ((x3_1.length : Int) : Int) := of_decide_eq_true (by first | (with_reducible assumption) | assumption); first | exact h_ | (have e_ := (Kd.R_reads' HO_3.out).1; omega) | simpa using h_))); (try (obtain rfl := k53_openM hM21)); (try (have HP21 := Kd.R_seg HX21.out (x4_1 : Int) (of_decide_eq_true (by first | (with_reducible assumption) | assumption)) (by have h_ : (x4_1 : Int) < ((x3_1.length : Int) : Int) := of_decide_eq_true (by first | (with_reducible assumption) | assumption); first | exact h_ | (have e_ := (Kd.R_reads' HO_3.out).1; omega) | simpa using h_) (seg := [.int .i64 (wrap64 (((rd_T53 x3_1 x4_1).f1) + 1))]) (j := 1) hcl21 hcc21 (show 2 ≤ 3 from by decide) (x' := (⟨(rd_T53 x3_1 x4_1).f0, wrap64 (((rd_T53 x3_1 x4_1).f1) + 1), (rd_T53 x3_1 x4_1).f2⟩ : S53)) (k53_mkM _ _ _ (⟨(rd_T53 x3_1 x4_1).f0, wrap64 (((rd_T53 x3_1 x4_1).f1) + 1), (rd_T53 x3_1 x4_1).f2⟩ : S53) ) (fun _ hk => hk))); (try (have hx21_1 := hcc21 1 _ rfl)); (try (try simp only [show (k53).sz = 3 from rfl, Nat.mul_one, Nat.add_zero] at hx21_1)); (try (have hf21_1 := hfr21 1)); (try (try simp only [show (k53).sz = 3 from rfl, Nat.mul_one, Nat.add_zero] at hf21_1)); (try (clear hcl21 hcc21 hfr21 hM21)))); refine store_event (t := 3) (p := 52) (v := ?vo_w22) (w1 := (wr.setCell ⟨go17, (x4_1 : Int).toNat * 3 + 1, none⟩ (.int .i64 (wrap64 (((rd_T53 x3_1 x4_1).f1) + 1))))) ?hg ?ho ?hn ?hr ?_; (case ho => rfl); (case hg => rfl); (case hn => rfl); (case hr => first | (go_simp; done) | (go_simp; rfl)); intro w22 hw; have hg : wr.grownBy w22 (some go17) := (by rw [hw]; exact HP21.2); have hp_ : Kd.R k53 53 w22 w.heap.size (fun _ => True) (.slice (some ⟨go17, 0, none⟩) x3_1.length co18) y160 := (by rw [hw, Ny160.out]; exact HP21.1); clear HP21; replace BK148 := uD (blk_grown (g := gb148) (o := .cells #[.int .i64 a0_0, .int .i64 a0_1, .bool a0_2, .slice A0_3 l0_3.length c0_3] 29 (0, 0)) (by (with_reducible repeat (first | refine uH ?_ _ | refine uJ ?_ | refine uG ?_ _)); exact BK148.out) hg (Kd.R_ne HO_3.out BK148.out (by decide))); replace BK149 := uD (blk_grown (g := gb149) (o := .cells #[.int .i64 0, .int .i64 0, .bool false, .slice none 0 0] 29 (0, 0)) (by (with_reducible repeat (first | refine uH ?_ _ | refine uJ ?_ | refine uG ?_ _)); exact BK149.out) hg (Kd.R_ne HO_3.out BK149.out (by decide))); replace HO_3 := uD (hp_); replace HB := uD ((by rw [hw]; exact uM (HB.out) GB17.out : Below w.heap.size w w22)); clear hg hw hp_))
          repeat (go_quiet (first | ((with_reducible refine gate_store (t := 3) (p := 52) rfl ?_); (try (rw [drewN_self wr]; generalize hq_ : World.drewN wr _ = wr; have n0_ := uD (Kd.R_at hq_ HO_3.out); have n1_ := uD (blk_at hq_ BK148.out); have n2_ := uD (blk_at hq_ BK149.out); have n3_ := uD (below_at hq_ HB.out); clear hq_ HO_3 BK148 BK149 HB; have HO_3 := n0_; have BK148 := n1_; have BK149 := n2_; have HB := n3_; clear n0_ n1_ n2_ n3_; (try (have HX21 := uD (show Kd.R k53 53 wr w.heap.size (fun _ => True) (.slice (some ⟨go17, 0, none⟩) x3_1.length co18) x3_1 from (by (with_reducible repeat (first | apply uU | apply uS | apply uT)); exact HO_3.out)))); (try (obtain ⟨ce21, hcl21, hM21, hcc21, hfr21⟩ := Kd.R_elem HX21.out z53 (x4_1 : Int) (of_decide_eq_true (by first | (with_reducible assumption) | assumption)) (by have h_ : (x4_1 : Int) < ((x3_1.length : Int) : Int) := of_decide_eq_true (by first | (with_reducible assumption) | assumption); first | exact h_ | (have e_ := (Kd.R_reads' HO_3.out).1; omega) | simpa using h_))); (try (obtain rfl := k53_openM hM21)); (try (have HP21 := Kd.R_seg HX21.out (x4_1 : Int) (of_decide_eq_true (by first | (with_reducible assumption) | assumption)) (by have h_ : (x4_1 : Int) < ((x3_1.length : Int) : Int) := of_decide_eq_true (by first | (with_reducible assumption) | assumption); first | exact h_ | (have e_ := (Kd.R_reads' HO_3.out).1; omega) | simpa using h_) (seg := [.int .i64 (wrap64 (((rd_T53 x3_1 x4_1).f1) + 1))]) (j := 1) hcl21 hcc21 (show 2 ≤ 3 from by decide) (x' := (⟨(rd_T53 x3_1 x4_1).f0, wrap64 (((rd_T53 x3_1 x4_1).f1) + 1), (rd_T53 x3_1 x4_1).f2⟩ : S53)) (k53_mkM _ _ _ (⟨(rd_T53 x3_1 x4_1).f0, wrap64 (((rd_T53 x3_1 x4_1).f1) + 1), (rd_T53 x3_1 x4_1).f2⟩ : S53) ) (fun _ hk => hk))); (try (have hx21_1 := hcc21 1 _ rfl)); (try (try simp only [show (k53).sz = 3 from rfl, Nat.mul_one, Nat.add_zero] at hx21_1)); (try (have hf21_1 := hfr21 1)); (try (try simp only [show (k53).sz = 3 from rfl, Nat.mul_one, Nat.add_zero] at hf21_1)); (try (clear hcl21 hcc21 hfr21 hM21)))); refine store_event (t := 3) (p := 52) (v := ?vo_w22) (w1 := (wr.setCell ⟨go17, (x4_1 : Int).toNat * 3 + 1, none⟩ (.int .i64 (wrap64 (((rd_T53 x3_1 x4_1).f1) + 1))))) ?hg ?ho ?hn ?hr ?_; (case ho => rfl); (case hg => rfl); (case hn => rfl); (case hr => first | (go_simp; done) | (go_simp; rfl)); intro w22 hw; have hg : wr.grownBy w22 (some go17) := (by rw [hw]; exact HP21.2); have hp_ : Kd.R k53 53 w22 w.heap.size (fun _ => True) (.slice (some ⟨go17, 0, none⟩) x3_1.length co18) y160 := (by rw [hw, Ny160.out]; exact HP21.1); clear HP21; replace BK148 := uD (blk_grown (g := gb148) (o := .cells #[.int .i64 a0_0, .int .i64 a0_1, .bool a0_2, .slice A0_3 l0_3.length c0_3] 29 (0, 0)) (by (with_reducible repeat (first | refine uH ?_ _ | refine uJ ?_ | refine uG ?_ _)); exact BK148.out) hg (Kd.R_ne HO_3.out BK148.out (by decide))); replace BK149 := uD (blk_grown (g := gb149) (o := .cells #[.int .i64 0, .int .i64 0, .bool false, .slice none 0 0] 29 (0, 0)) (by (with_reducible repeat (first | refine uH ?_ _ | refine uJ ?_ | refine uG ?_ _)); exact BK149.out) hg (Kd.R_ne HO_3.out BK149.out (by decide))); replace HO_3 := uD (hp_); replace HB := uD ((by rw [hw]; exact uM (HB.out) GB17.out : Below w.heap.size w w22)); clear hg hw hp_)); try go_wp2_with (first | ((with_reducible refine gate_store (t := 3) (p := 52) rfl ?_); (try (rw [drewN_self wr]; generalize hq_ : World.drewN wr _ = wr; have n0_ := uD (Kd.R_at hq_ HO_3.out); have n1_ := uD (blk_at hq_ BK148.out); have n2_ := uD (blk_at hq_ BK149.out); have n3_ := uD (below_at hq_ HB.out); clear hq_ HO_3 BK148 BK149 HB; have HO_3 := n0_; have BK148 := n1_; have BK149 := n2_; have HB := n3_; clear n0_ n1_ n2_ n3_; (try (have HX21 := uD (show Kd.R k53 53 wr w.heap.size (fun _ => True) (.slice (some ⟨go17, 0, none⟩) x3_1.length co18) x3_1 from (by (with_reducible repeat (first | apply uU | apply uS | apply uT)); exact HO_3.out)))); (try (obtain ⟨ce21, hcl21, hM21, hcc21, hfr21⟩ := Kd.R_elem HX21.out z53 (x4_1 : Int) (of_decide_eq_true (by first | (with_reducible assumption) | assumption)) (by have h_ : (x4_1 : Int) < ((x3_1.length : Int) : Int) := of_decide_eq_true (by first | (with_reducible assumption) | assumption); first | exact h_ | (have e_ := (Kd.R_reads' HO_3.out).1; omega) | simpa using h_))); (try (obtain rfl := k53_openM hM21)); (try (have HP21 := Kd.R_seg HX21.out (x4_1 : Int) (of_decide_eq_true (by first | (with_reducible assumption) | assumption)) (by have h_ : (x4_1 : Int) < ((x3_1.length : Int) : Int) := of_decide_eq_true (by first | (with_reducible assumption) | assumption); first | exact h_ | (have e_ := (Kd.R_reads' HO_3.out).1; omega) | simpa using h_) (seg := [.int .i64 (wrap64 (((rd_T53 x3_1 x4_1).f1) + 1))]) (j := 1) hcl21 hcc21 (show 2 ≤ 3 from by decide) (x' := (⟨(rd_T53 x3_1 x4_1).f0, wrap64 (((rd_T53 x3_1 x4_1).f1) + 1), (rd_T53 x3_1 x4_1).f2⟩ : S53)) (k53_mkM _ _ _ (⟨(rd_T53 x3_1 x4_1).f0, wrap64 (((rd_T53 x3_1 x4_1).f1) + 1), (rd_T53 x3_1 x4_1).f2⟩ : S53) ) (fun _ hk => hk))); (try (have hx21_1 := hcc21 1 _ rfl)); (try (try simp only [show (k53).sz = 3 from rfl, Nat.mul_one, Nat.add_zero] at hx21_1)); (try (have hf21_1 := hfr21 1)); (try (try simp only [show (k53).sz = 3 from rfl, Nat.mul_one, Nat.add_zero] at hf21_1)); (try (clear hcl21 hcc21 hfr21 hM21)))); refine store_event (t := 3) (p := 52) (v := ?vo_w22) (w1 := (wr.setCell ⟨go17, (x4_1 : Int).toNat * 3 + 1, none⟩ (.int .i64 (wrap64 (((rd_T53 x3_1 x4_1).f1) + 1))))) ?hg ?ho ?hn ?hr ?_; (case ho => rfl); (case hg => rfl); (case hn => rfl); (case hr => first | (go_simp; done) | (go_simp; rfl)); intro w22 hw; have hg : wr.grownBy w22 (some go17) := (by rw [hw]; exact HP21.2); have hp_ : Kd.R k53 53 w22 w.heap.size (fun _ => True) (.slice (some ⟨go17, 0, none⟩) x3_1.length co18) y160 := (by rw [hw, Ny160.out]; exact HP21.1); clear HP21; replace BK148 := uD (blk_grown (g := gb148) (o := .cells #[.int .i64 a0_0, .int .i64 a0_1, .bool a0_2, .slice A0_3 l0_3.length c0_3] 29 (0, 0)) (by (with_reducible repeat (first | refine uH ?_ _ | refine uJ ?_ | refine uG ?_ _)); exact BK148.out) hg (Kd.R_ne HO_3.out BK148.out (by decide))); replace BK149 := uD (blk_grown (g := gb149) (o := .cells #[.int .i64 0, .int .i64 0, .bool false, .slice none 0 0] 29 (0, 0)) (by (with_reducible repeat (first | refine uH ?_ _ | refine uJ ?_ | refine uG ?_ _)); exact BK149.out) hg (Kd.R_ne HO_3.out BK149.out (by decide))); replace HO_3 := uD (hp_); replace HB := uD ((by rw [hw]; exact uM (HB.out) GB17.out : Below w.heap.size w w22)); clear hg hw hp_)))
          go_roundg k1
          case measure => have := HK1.out; omega
          case rel => exact ⟨(y160), (wrap64 (x4_1 + 1)), (by first | rfl | (simp; done) | (simp [*]; done)), H', ⟨by have := HK1.out; omega⟩, ⟨by (with_reducible repeat (first | apply uU | apply uS | apply uT)); exact HO_3.out⟩, ⟨by (with_reducible repeat (first | refine uH ?_ _ | refine uJ ?_ | refine uG ?_ _)); exact BK148.out⟩, ⟨by (with_reducible repeat (first | refine uH ?_ _ | refine uJ ?_ | refine uG ?_ _)); exact BK149.out⟩, ⟨by repeat (first | (with_reducible first | exact HB.out | apply uL | apply uE | apply uK | refine uM ?_ GE148.out | refine uM ?_ GE149.out) | exact HB.out)⟩⟩
         ·rw [if_neg c16] at H
          have c16b0 : decide (((rd_T53 x3_1 x4_1).f1) < (wrap64 ((wrap64 (((rd_T53 x3_1 (ji12)).f1) - ((rd_T53 x3_1 (ji12)).f2))) - a0_1))) = false := decide_eq_false c16
          clear c16
          have H' := uD H
          clear H
          obtain ⟨Ao23, co23, eo23⟩ := Kd.R_slice HO_3.out
          subst eo23
          have hnb24 := NB148_149.out
          have hnc24 := NB149_148.out
          have hcz25_0 : wr.cell? ⟨gb148, 0, none⟩ = some (.int .i64 a0_0) := (uF BK148.out 0).trans rfl
          have hcz25_1 : wr.cell? ⟨gb148, 1, none⟩ = some (.int .i64 a0_1) := (uF BK148.out 1).trans rfl
          have hcz25_2 : wr.cell? ⟨gb148, 2, none⟩ = some (.bool a0_2) := (uF BK148.out 2).trans rfl
          have hcz25_3 : wr.cell? ⟨gb148, 3, none⟩ = some (.slice A0_3 l0_3.length c0_3) := (uF BK148.out 3).trans rfl
          have hfz25_0 := uI BK148.out 0
          have hfz25_1 := uI BK148.out 1
          have hfz25_2 := uI BK148.out 2
          have hfz25_3 := uI BK148.out 3
          have p156 : 0 ≤ ((ji12) : Int) := of_decide_eq_true (by first | (with_reducible assumption) | assumption)
          have q156 : (ji12) < (x3_1.length : Int) := of_decide_eq_true (by first | (with_reducible assumption) | assumption)
          obtain ⟨ad156, e156, hx156_0, hx156_1, hx156_2⟩ := at_T53 (Kd.R_reads' HO_3.out).2.2 (ji12) p156 q156
          cases e156
          replace p156 := eq_true p156
          replace q156 := eq_true q156
          have p157 : 0 ≤ ((ji12) : Int) := of_decide_eq_true (by first | (with_reducible assumption) | assumption)
          have q157 : (ji12) < (x3_1.length : Int) := of_decide_eq_true (by first | (with_reducible assumption) | assumption)
          obtain ⟨ad157, e157, hx157_0, hx157_1, hx157_2⟩ := at_T53 (Kd.R_reads' HO_3.out).2.2 (ji12) p157 q157
          obtain rfl : ad156 = ad157 := (by injection e157)
          replace p157 := eq_true p157
          replace q157 := eq_true q157
          have p158 : 0 ≤ (x4_1 : Int) := of_decide_eq_true (by first | (with_reducible assumption) | assumption)
          have q158 : x4_1 < (x3_1.length : Int) := of_decide_eq_true (by first | (with_reducible assumption) | assumption)
          obtain ⟨ad158, e158, hx158_0, hx158_1, hx158_2⟩ := at_T53 (Kd.R_reads' HO_3.out).2.2 x4_1 p158 q158
          obtain rfl : ad156 = ad158 := (by injection e158)
          replace p158 := eq_true p158
          replace q158 := eq_true q158
          go_wp2
          repeat (go_quiet (fail); try go_wp2)
          go_roundg k1
          case measure => have := HK1.out; omega
          case rel => exact ⟨(x3_1), (wrap64 (x4_1 + 1)), (by first | rfl | (simp; done) | (simp [*]; done)), H', ⟨by have := HK1.out; omega⟩, ⟨by (with_reducible repeat (first | apply uU | apply uS | apply uT)); exact HO_3.out⟩, ⟨by (with_reducible repeat (first | refine uH ?_ _ | refine uJ ?_ | refine uG ?_ _)); exact BK148.out⟩, ⟨by (with_reducible repeat (first | refine uH ?_ _ | refine uJ ?_ | refine uG ?_ _)); exact BK149.out⟩, ⟨by repeat (first | (with_reducible first | exact HB.out | apply uL | apply uE | apply uK | refine uM ?_ GE148.out | refine uM ?_ GE149.out) | exact HB.out)⟩⟩
        ·rw [if_neg c15] at H
         exact absurd H (by simp)
       ·rw [if_neg c14] at H
        exact absurd H (by simp)
      ·rw [if_neg c13] at H
       exact absurd H (by simp)
     ·rw [if_neg c11] at H
      have c11b0 : decide (0 < x4_1) = false := decide_eq_false c11
      clear c11
      by_cases c26 : 0 ≤ x4_1
      ·rw [if_pos c26] at H
       have c26b0 : decide (0 ≤ x4_1) = true := decide_eq_true c26
       clear c26
       by_cases c27 : ((rd_T53 x3_1 x4_1).f1) < a0_0
       ·rw [if_pos c27] at H
        have c27b0 : decide (((rd_T53 x3_1 x4_1).f1) < a0_0) = true := decide_eq_true c27
        clear c27
        obtain ⟨y163, hy163⟩ : ∃ y_ : List (S53), y_ = (x3_1.set (x4_1 : Int).toNat (⟨(rd_T53 x3_1 x4_1).f0, wrap64 (((rd_T53 x3_1 x4_1).f1) + 1), (rd_T53 x3_1 x4_1).f2⟩ : S53)) := ⟨_, rfl⟩
        replace H : (spec_l02Step.l0 k1 y163 (wrap64 (x4_1 + 1)) a0_0 a0_1 a0_2 l0_3) = some (r1, r2, r3, r4) := by first | (rw [hy163]; with_reducible exact H) | (have H2_ := (Option.bind_some _ _).symm.trans H; rw [hy163]; with_reducible exact H2_) | (have H2_ := (Option.bind_some _ _).symm.trans H; with_reducible exact H2_) | with_reducible exact H | (rw [hy163]; exact H) | exact H
        have Ny163 := uD hy163
        clear hy163
        have H' := uD H
        clear H
        obtain ⟨Ao29, co29, eo29⟩ := Kd.R_slice HO_3.out
        subst eo29
        have hnb30 := NB148_149.out
        have hnc30 := NB149_148.out
        have hcz31_0 : wr.cell? ⟨gb148, 0, none⟩ = some (.int .i64 a0_0) := (uF BK148.out 0).trans rfl
        have hcz31_1 : wr.cell? ⟨gb148, 1, none⟩ = some (.int .i64 a0_1) := (uF BK148.out 1).trans rfl
        have hcz31_2 : wr.cell? ⟨gb148, 2, none⟩ = some (.bool a0_2) := (uF BK148.out 2).trans rfl
        have hcz31_3 : wr.cell? ⟨gb148, 3, none⟩ = some (.slice A0_3 l0_3.length c0_3) := (uF BK148.out 3).trans rfl
        have hfz31_0 := uI BK148.out 0
        have hfz31_1 := uI BK148.out 1
        have hfz31_2 := uI BK148.out 2
        have hfz31_3 := uI BK148.out 3
        have p161 : 0 ≤ (x4_1 : Int) := of_decide_eq_true (by first | (with_reducible assumption) | assumption)
        have q161 : x4_1 < (x3_1.length : Int) := of_decide_eq_true (by first | (with_reducible assumption) | assumption)
        obtain ⟨ad161, e161, hx161_0, hx161_1, hx161_2⟩ := at_T53 (Kd.R_reads' HO_3.out).2.2 x4_1 p161 q161
        cases e161
        replace p161 := eq_true p161
        replace q161 := eq_true q161
        have p162 : 0 ≤ (x4_1 : Int) := of_decide_eq_true (by first | (with_reducible assumption) | assumption)
        have q162 : x4_1 < (x3_1.length : Int) := of_decide_eq_true (by first | (with_reducible assumption) | assumption)
        obtain ⟨ad162, e162, hx162_0, hx162_1, hx162_2⟩ := at_T53 (Kd.R_reads' HO_3.out).2.2 x4_1 p162 q162
        obtain rfl : ad161 = ad162 := (by injection e162)
        replace p162 := eq_true p162
        replace q162 := eq_true q162
        have p28 : 0 ≤ (x4_1 : Int) := of_decide_eq_true (by first | (with_reducible assumption) | assumption)
        have q28 : (x4_1 : Int) < ((x3_1.length : Int) : Int) := of_decide_eq_true (by first | (with_reducible assumption) | assumption)
        obtain ⟨go28, co28, eo28, gb28, gl28, cl28, HG28⟩ := Kd.R_form HO_3.out (by omega)
        (first | cases eo28 | (injection eo28 with ea_ en_ ec_; (first | subst ea_ | (injection ea_ with ea_; subst ea_)); subst ec_; clear en_))
        have GB28 := uD gb28
        have GG28 := uD HG28
        clear gb28 gl28 HG28
        (first | simp only [add_plain] at hx161_0 | skip)
        (first | simp only [add_plain] at hx161_1 | skip)
        (first | simp only [add_plain] at hx161_2 | skip)
        (first | simp only [add_plain] at hx162_0 | skip)
        (first | simp only [add_plain] at hx162_1 | skip)
        (first | simp only [add_plain] at hx162_2 | skip)
        obtain ⟨ce28, hcl28, hM28, hcc28, hfr28⟩ := Kd.R_elem HO_3.out z53 (x4_1 : Int) p28 q28
        obtain rfl := k53_openM hM28
        have hx28_0 : wr.cell? ⟨go28, (x4_1 : Int).toNat * 3, none⟩ = some (.int .i64 ((rd_T53 x3_1 x4_1).f0)) := hcc28 0 _ rfl
        have hx28_1 : wr.cell? ⟨go28, (x4_1 : Int).toNat * 3 + 1, none⟩ = some (.int .i64 ((rd_T53 x3_1 x4_1).f1)) := hcc28 1 _ rfl
        have hx28_2 : wr.cell? ⟨go28, (x4_1 : Int).toNat * 3 + 2, none⟩ = some (.int .i64 ((rd_T53 x3_1 x4_1).f2)) := hcc28 2 _ rfl
        have hf28_0 : wr.frozen? ⟨go28, (x4_1 : Int).toNat * 3, none⟩ = false := hfr28 0
        have hf28_1 : wr.frozen? ⟨go28, (x4_1 : Int).toNat * 3 + 1, none⟩ = false := hfr28 1
        have hf28_2 : wr.frozen? ⟨go28, (x4_1 : Int).toNat * 3 + 2, none⟩ = false := hfr28 2
        clear hcl28 hcc28 hfr28 hM28
        replace p28 := eq_true p28
        replace q28 := eq_true q28
        have HX32 := uD (show Kd.R k53 53 wr w.heap.size (fun _ => True) (.slice (some ⟨go28, 0, none⟩) x3_1.length co29) x3_1 from (by (with_reducible repeat (first | apply uU | apply uS | apply uT)); exact HO_3.out))
        obtain ⟨ce32, hcl32, hM32, hcc32, hfr32⟩ := Kd.R_elem HX32.out z53 (x4_1 : Int) (of_decide_eq_true (by first | (with_reducible assumption) | assumption)) (by have h_ : (x4_1 : Int) < ((x3_1.length : Int) : Int) := of_decide_eq_true (by first | (with_reducible assumption) | assumption); first | exact h_ | (have e_ := (Kd.R_reads' HO_3.out).1; omega) | simpa using h_)
        obtain rfl := k53_openM hM32
        have HP32 := Kd.R_seg HX32.out (x4_1 : Int) (of_decide_eq_true (by first | (with_reducible assumption) | assumption)) (by have h_ : (x4_1 : Int) < ((x3_1.length : Int) : Int) := of_decide_eq_true (by first | (with_reducible assumption) | assumption); first | exact h_ | (have e_ := (Kd.R_reads' HO_3.out).1; omega) | simpa using h_) (seg := [.int .i64 (wrap64 (((rd_T53 x3_1 x4_1).f1) + 1))]) (j := 1) hcl32 hcc32 (show 2 ≤ 3 from by decide) (x' := (⟨(rd_T53 x3_1 x4_1).f0, wrap64 (((rd_T53 x3_1 x4_1).f1) + 1), (rd_T53 x3_1 x4_1).f2⟩ : S53)) (k53_mkM _ _ _ (⟨(rd_T53 x3_1 x4_1).f0, wrap64 (((rd_T53 x3_1 x4_1).f1) + 1), (rd_T53 x3_1 x4_1).f2⟩ : S53) ) (fun _ hk => hk)
        have hx32_1 := hcc32 1 _ rfl
        (try simp only [show (k53).sz = 3 from rfl, Nat.mul_one, Nat.add_zero] at hx32_1)
        have hf32_1 := hfr32 1
        (try simp only [show (k53).sz = 3 from rfl, Nat.mul_one, Nat.add_zero] at hf32_1)
        clear hcl32 hcc32 hfr32 hM32
        go_wp2_with (first | ((with_reducible refine gate_store (t := 3) (p := 52) rfl ?_); (try (rw [drewN_self wr]; generalize hq_ : World.drewN wr _ = wr; have n0_ := uD (Kd.R_at hq_ HO_3.out); have n1_ := uD (blk_at hq_ BK148.out); have n2_ := uD (blk_at hq_ BK149.out); have n3_ := uD (below_at hq_ HB.out); clear hq_ HO_3 BK148 BK149 HB; have HO_3 := n0_; have BK148 := n1_; have BK149 := n2_; have HB := n3_; clear n0_ n1_ n2_ n3_; (try (have HX32 := uD (show Kd.R k53 53 wr w.heap.size (fun _ => True) (.slice (some ⟨go28, 0, none⟩) x3_1.length co29) x3_1 from (by (with_reducible repeat (first | apply uU | apply uS | apply uT)); exact HO_3.out)))); (try (obtain ⟨ce32, hcl32, hM32, hcc32, hfr32⟩ := Kd.R_elem HX32.out z53 (x4_1 : Int) (of_decide_eq_true (by first | (with_reducible assumption) | assumption)) (by have h_ : (x4_1 : Int) < ((x3_1.length : Int) : Int) := of_decide_eq_true (by first | (with_reducible assumption) | assumption); first | exact h_ | (have e_ := (Kd.R_reads' HO_3.out).1; omega) | simpa using h_))); (try (obtain rfl := k53_openM hM32)); (try (have HP32 := Kd.R_seg HX32.out (x4_1 : Int) (of_decide_eq_true (by first | (with_reducible assumption) | assumption)) (by have h_ : (x4_1 : Int) < ((x3_1.length : Int) : Int) := of_decide_eq_true (by first | (with_reducible assumption) | assumption); first | exact h_ | (have e_ := (Kd.R_reads' HO_3.out).1; omega) | simpa using h_) (seg := [.int .i64 (wrap64 (((rd_T53 x3_1 x4_1).f1) + 1))]) (j := 1) hcl32 hcc32 (show 2 ≤ 3 from by decide) (x' := (⟨(rd_T53 x3_1 x4_1).f0, wrap64 (((rd_T53 x3_1 x4_1).f1) + 1), (rd_T53 x3_1 x4_1).f2⟩ : S53)) (k53_mkM _ _ _ (⟨(rd_T53 x3_1 x4_1).f0, wrap64 (((rd_T53 x3_1 x4_1).f1) + 1), (rd_T53 x3_1 x4_1).f2⟩ : S53) ) (fun _ hk => hk))); (try (have hx32_1 := hcc32 1 _ rfl)); (try (try simp only [show (k53).sz = 3 from rfl, Nat.mul_one, Nat.add_zero] at hx32_1)); (try (have hf32_1 := hfr32 1)); (try (try simp only [show (k53).sz = 3 from rfl, Nat.mul_one, Nat.add_zero] at hf32_1)); (try (clear hcl32 hcc32 hfr32 hM32)))); refine store_event (t := 3) (p := 52) (v := ?vo_w33) (w1 := (wr.setCell ⟨go28, (x4_1 : Int).toNat * 3 + 1, none⟩ (.int .i64 (wrap64 (((rd_T53 x3_1 x4_1).f1) + 1))))) ?hg ?ho ?hn ?hr ?_; (case ho => rfl); (case hg => rfl); (case hn => rfl); (case hr => first | (go_simp; done) | (go_simp; rfl)); intro w33 hw; have hg : wr.grownBy w33 (some go28) := (by rw [hw]; exact HP32.2); have hp_ : Kd.R k53 53 w33 w.heap.size (fun _ => True) (.slice (some ⟨go28, 0, none⟩) x3_1.length co29) y163 := (by rw [hw, Ny163.out]; exact HP32.1); clear HP32; replace BK148 := uD (blk_grown (g := gb148) (o := .cells #[.int .i64 a0_0, .int .i64 a0_1, .bool a0_2, .slice A0_3 l0_3.length c0_3] 29 (0, 0)) (by (with_reducible repeat (first | refine uH ?_ _ | refine uJ ?_ | refine uG ?_ _)); exact BK148.out) hg (Kd.R_ne HO_3.out BK148.out (by decide))); replace BK149 := uD (blk_grown (g := gb149) (o := .cells #[.int .i64 0, .int .i64 0, .bool false, .slice none 0 0] 29 (0, 0)) (by (with_reducible repeat (first | refine uH ?_ _ | refine uJ ?_ | refine uG ?_ _)); exact BK149.out) hg (Kd.R_ne HO_3.out BK149.out (by decide))); replace HO_3 := uD (hp_); replace HB := uD ((by rw [hw]; exact uM (HB.out) GB28.out : Below w.heap.size w w33)); clear hg hw hp_))
        repeat (go_quiet (first | ((with_reducible refine gate_store (t := 3) (p := 52) rfl ?_); (try (rw [drewN_self wr]; generalize hq_ : World.drewN wr _ = wr; have n0_ := uD (Kd.R_at hq_ HO_3.out); have n1_ := uD (blk_at hq_ BK148.out); have n2_ := uD (blk_at hq_ BK149.out); have n3_ := uD (below_at hq_ HB.out); clear hq_ HO_3 BK148 BK149 HB; have HO_3 := n0_; have BK148 := n1_; have BK149 := n2_; have HB := n3_; clear n0_ n1_ n2_ n3_; (try (have HX32 := uD (show Kd.R k53 53 wr w.heap.size (fun _ => True) (.slice (some ⟨go28, 0, none⟩) x3_1.length co29) x3_1 from (by (with_reducible repeat (first | apply uU | apply uS | apply uT)); exact HO_3.out)))); (try (obtain ⟨ce32, hcl32, hM32, hcc32, hfr32⟩ := Kd.R_elem HX32.out z53 (x4_1 : Int) (of_decide_eq_true (by first | (with_reducible assumption) | assumption)) (by have h_ : (x4_1 : Int) < ((x3_1.length : Int) : Int) := of_decide_eq_true (by first | (with_reducible assumption) | assumption); first | exact h_ | (have e_ := (Kd.R_reads' HO_3.out).1; omega) | simpa using h_))); (try (obtain rfl := k53_openM hM32)); (try (have HP32 := Kd.R_seg HX32.out (x4_1 : Int) (of_decide_eq_true (by first | (with_reducible assumption) | assumption)) (by have h_ : (x4_1 : Int) < ((x3_1.length : Int) : Int) := of_decide_eq_true (by first | (with_reducible assumption) | assumption); first | exact h_ | (have e_ := (Kd.R_reads' HO_3.out).1; omega) | simpa using h_) (seg := [.int .i64 (wrap64 (((rd_T53 x3_1 x4_1).f1) + 1))]) (j := 1) hcl32 hcc32 (show 2 ≤ 3 from by decide) (x' := (⟨(rd_T53 x3_1 x4_1).f0, wrap64 (((rd_T53 x3_1 x4_1).f1) + 1), (rd_T53 x3_1 x4_1).f2⟩ : S53)) (k53_mkM _ _ _ (⟨(rd_T53 x3_1 x4_1).f0, wrap64 (((rd_T53 x3_1 x4_1).f1) + 1), (rd_T53 x3_1 x4_1).f2⟩ : S53) ) (fun _ hk => hk))); (try (have hx32_1 := hcc32 1 _ rfl)); (try (try simp only [show (k53).sz = 3 from rfl, Nat.mul_one, Nat.add_zero] at hx32_1)); (try (have hf32_1 := hfr32 1)); (try (try simp only [show (k53).sz = 3 from rfl, Nat.mul_one, Nat.add_zero] at hf32_1)); (try (clear hcl32 hcc32 hfr32 hM32)))); refine store_event (t := 3) (p := 52) (v := ?vo_w33) (w1 := (wr.setCell ⟨go28, (x4_1 : Int).toNat * 3 + 1, none⟩ (.int .i64 (wrap64 (((rd_T53 x3_1 x4_1).f1) + 1))))) ?hg ?ho ?hn ?hr ?_; (case ho => rfl); (case hg => rfl); (case hn => rfl); (case hr => first | (go_simp; done) | (go_simp; rfl)); intro w33 hw; have hg : wr.grownBy w33 (some go28) := (by rw [hw]; exact HP32.2); have hp_ : Kd.R k53 53 w33 w.heap.size (fun _ => True) (.slice (some ⟨go28, 0, none⟩) x3_1.length co29) y163 := (by rw [hw, Ny163.out]; exact HP32.1); clear HP32; replace BK148 := uD (blk_grown (g := gb148) (o := .cells #[.int .i64 a0_0, .int .i64 a0_1, .bool a0_2, .slice A0_3 l0_3.length c0_3] 29 (0, 0)) (by (with_reducible repeat (first | refine uH ?_ _ | refine uJ ?_ | refine uG ?_ _)); exact BK148.out) hg (Kd.R_ne HO_3.out BK148.out (by decide))); replace BK149 := uD (blk_grown (g := gb149) (o := .cells #[.int .i64 0, .int .i64 0, .bool false, .slice none 0 0] 29 (0, 0)) (by (with_reducible repeat (first | refine uH ?_ _ | refine uJ ?_ | refine uG ?_ _)); exact BK149.out) hg (Kd.R_ne HO_3.out BK149.out (by decide))); replace HO_3 := uD (hp_); replace HB := uD ((by rw [hw]; exact uM (HB.out) GB28.out : Below w.heap.size w w33)); clear hg hw hp_)); try go_wp2_with (first | ((with_reducible refine gate_store (t := 3) (p := 52) rfl ?_); (try (rw [drewN_self wr]; generalize hq_ : World.drewN wr _ = wr; have n0_ := uD (Kd.R_at hq_ HO_3.out); have n1_ := uD (blk_at hq_ BK148.out); have n2_ := uD (blk_at hq_ BK149.out); have n3_ := uD (below_at hq_ HB.out); clear hq_ HO_3 BK148 BK149 HB; have HO_3 := n0_; have BK148 := n1_; have BK149 := n2_; have HB := n3_; clear n0_ n1_ n2_ n3_; (try (have HX32 := uD (show Kd.R k53 53 wr w.heap.size (fun _ => True) (.slice (some ⟨go28, 0, none⟩) x3_1.length co29) x3_1 from (by (with_reducible repeat (first | apply uU | apply uS | apply uT)); exact HO_3.out)))); (try (obtain ⟨ce32, hcl32, hM32, hcc32, hfr32⟩ := Kd.R_elem HX32.out z53 (x4_1 : Int) (of_decide_eq_true (by first | (with_reducible assumption) | assumption)) (by have h_ : (x4_1 : Int) < ((x3_1.length : Int) : Int) := of_decide_eq_true (by first | (with_reducible assumption) | assumption); first | exact h_ | (have e_ := (Kd.R_reads' HO_3.out).1; omega) | simpa using h_))); (try (obtain rfl := k53_openM hM32)); (try (have HP32 := Kd.R_seg HX32.out (x4_1 : Int) (of_decide_eq_true (by first | (with_reducible assumption) | assumption)) (by have h_ : (x4_1 : Int) < ((x3_1.length : Int) : Int) := of_decide_eq_true (by first | (with_reducible assumption) | assumption); first | exact h_ | (have e_ := (Kd.R_reads' HO_3.out).1; omega) | simpa using h_) (seg := [.int .i64 (wrap64 (((rd_T53 x3_1 x4_1).f1) + 1))]) (j := 1) hcl32 hcc32 (show 2 ≤ 3 from by decide) (x' := (⟨(rd_T53 x3_1 x4_1).f0, wrap64 (((rd_T53 x3_1 x4_1).f1) + 1), (rd_T53 x3_1 x4_1).f2⟩ : S53)) (k53_mkM _ _ _ (⟨(rd_T53 x3_1 x4_1).f0, wrap64 (((rd_T53 x3_1 x4_1).f1) + 1), (rd_T53 x3_1 x4_1).f2⟩ : S53) ) (fun _ hk => hk))); (try (have hx32_1 := hcc32 1 _ rfl)); (try (try simp only [show (k53).sz = 3 from rfl, Nat.mul_one, Nat.add_zero] at hx32_1)); (try (have hf32_1 := hfr32 1)); (try (try simp only [show (k53).sz = 3 from rfl, Nat.mul_one, Nat.add_zero] at hf32_1)); (try (clear hcl32 hcc32 hfr32 hM32)))); refine store_event (t := 3) (p := 52) (v := ?vo_w33) (w1 := (wr.setCell ⟨go28, (x4_1 : Int).toNat * 3 + 1, none⟩ (.int .i64 (wrap64 (((rd_T53 x3_1 x4_1).f1) + 1))))) ?hg ?ho ?hn ?hr ?_; (case ho => rfl); (case hg => rfl); (case hn => rfl); (case hr => first | (go_simp; done) | (go_simp; rfl)); intro w33 hw; have hg : wr.grownBy w33 (some go28) := (by rw [hw]; exact HP32.2); have hp_ : Kd.R k53 53 w33 w.heap.size (fun _ => True) (.slice (some ⟨go28, 0, none⟩) x3_1.length co29) y163 := (by rw [hw, Ny163.out]; exact HP32.1); clear HP32; replace BK148 := uD (blk_grown (g := gb148) (o := .cells #[.int .i64 a0_0, .int .i64 a0_1, .bool a0_2, .slice A0_3 l0_3.length c0_3] 29 (0, 0)) (by (with_reducible repeat (first | refine uH ?_ _ | refine uJ ?_ | refine uG ?_ _)); exact BK148.out) hg (Kd.R_ne HO_3.out BK148.out (by decide))); replace BK149 := uD (blk_grown (g := gb149) (o := .cells #[.int .i64 0, .int .i64 0, .bool false, .slice none 0 0] 29 (0, 0)) (by (with_reducible repeat (first | refine uH ?_ _ | refine uJ ?_ | refine uG ?_ _)); exact BK149.out) hg (Kd.R_ne HO_3.out BK149.out (by decide))); replace HO_3 := uD (hp_); replace HB := uD ((by rw [hw]; exact uM (HB.out) GB28.out : Below w.heap.size w w33)); clear hg hw hp_)))
        go_roundg k1
        case measure => have := HK1.out; omega
        case rel => exact ⟨(y163), (wrap64 (x4_1 + 1)), (by first | rfl | (simp; done) | (simp [*]; done)), H', ⟨by have := HK1.out; omega⟩, ⟨by (with_reducible repeat (first | apply uU | apply uS | apply uT)); exact HO_3.out⟩, ⟨by (with_reducible repeat (first | refine uH ?_ _ | refine uJ ?_ | refine uG ?_ _)); exact BK148.out⟩, ⟨by (with_reducible repeat (first | refine uH ?_ _ | refine uJ ?_ | refine uG ?_ _)); exact BK149.out⟩, ⟨by repeat (first | (with_reducible first | exact HB.out | apply uL | apply uE | apply uK | refine uM ?_ GE148.out | refine uM ?_ GE149.out) | exact HB.out)⟩⟩
       ·rw [if_neg c27] at H
        have c27b0 : decide (((rd_T53 x3_1 x4_1).f1) < a0_0) = false := decide_eq_false c27
        clear c27
        have H' := uD H
        clear H
        obtain ⟨Ao34, co34, eo34⟩ := Kd.R_slice HO_3.out
        subst eo34
        have hnb35 := NB148_149.out
        have hnc35 := NB149_148.out
        have hcz36_0 : wr.cell? ⟨gb148, 0, none⟩ = some (.int .i64 a0_0) := (uF BK148.out 0).trans rfl
        have hcz36_1 : wr.cell? ⟨gb148, 1, none⟩ = some (.int .i64 a0_1) := (uF BK148.out 1).trans rfl
        have hcz36_2 : wr.cell? ⟨gb148, 2, none⟩ = some (.bool a0_2) := (uF BK148.out 2).trans rfl
        have hcz36_3 : wr.cell? ⟨gb148, 3, none⟩ = some (.slice A0_3 l0_3.length c0_3) := (uF BK148.out 3).trans rfl
        have hfz36_0 := uI BK148.out 0
        have hfz36_1 := uI BK148.out 1
        have hfz36_2 := uI BK148.out 2
        have hfz36_3 := uI BK148.out 3
        have p161 : 0 ≤ (x4_1 : Int) := of_decide_eq_true (by first | (with_reducible assumption) | assumption)
        have q161 : x4_1 < (x3_1.length : Int) := of_decide_eq_true (by first | (with_reducible assumption) | assumption)
        obtain ⟨ad161, e161, hx161_0, hx161_1, hx161_2⟩ := at_T53 (Kd.R_reads' HO_3.out).2.2 x4_1 p161 q161
        cases e161
        replace p161 := eq_true p161
        replace q161 := eq_true q161
        go_wp2
        repeat (go_quiet (fail); try go_wp2)
        go_roundg k1
        case measure => have := HK1.out; omega
        case rel => exact ⟨(x3_1), (wrap64 (x4_1 + 1)), (by first | rfl | (simp; done) | (simp [*]; done)), H', ⟨by have := HK1.out; omega⟩, ⟨by (with_reducible repeat (first | apply uU | apply uS | apply uT)); exact HO_3.out⟩, ⟨by (with_reducible repeat (first | refine uH ?_ _ | refine uJ ?_ | refine uG ?_ _)); exact BK148.out⟩, ⟨by (with_reducible repeat (first | refine uH ?_ _ | refine uJ ?_ | refine uG ?_ _)); exact BK149.out⟩, ⟨by repeat (first | (with_reducible first | exact HB.out | apply uL | apply uE | apply uK | refine uM ?_ GE148.out | refine uM ?_ GE149.out) | exact HB.out)⟩⟩
      ·rw [if_neg c26] at H
       exact absurd H (by simp)
    ·rw [if_neg c10] at H
     have c10b0 : decide (x4_1 < (x3_1.length : Int)) = false := decide_eq_false c10
     clear c10
     simp only [Option.some.injEq, Prod.mk.injEq] at H
     obtain ⟨rfl, rfl, rfl, rfl⟩ := H
     obtain ⟨Ao37, co37, eo37⟩ := Kd.R_slice HO_3.out
     subst eo37
     have hnb38 := NB148_149.out
     have hnc38 := NB149_148.out
     have hcz39_0 : wr.cell? ⟨gb148, 0, none⟩ = some (.int .i64 a0_0) := (uF BK148.out 0).trans rfl
     have hcz39_1 : wr.cell? ⟨gb148, 1, none⟩ = some (.int .i64 a0_1) := (uF BK148.out 1).trans rfl
     have hcz39_2 : wr.cell? ⟨gb148, 2, none⟩ = some (.bool a0_2) := (uF BK148.out 2).trans rfl
     have hcz39_3 : wr.cell? ⟨gb148, 3, none⟩ = some (.slice A0_3 l0_3.length c0_3) := (uF BK148.out 3).trans rfl
     have hfz39_0 := uI BK148.out 0
     have hfz39_1 := uI BK148.out 1
     have hfz39_2 := uI BK148.out 2
     have hfz39_3 := uI BK148.out 3
     have hcz40_0 : wr.cell? ⟨gb149, 0, none⟩ = some (.int .i64 0) := (uF BK149.out 0).trans rfl
     have hcz40_1 : wr.cell? ⟨gb149, 1, none⟩ = some (.int .i64 0) := (uF BK149.out 1).trans rfl
     have hcz40_2 : wr.cell? ⟨gb149, 2, none⟩ = some (.bool false) := (uF BK149.out 2).trans rfl
     have hcz40_3 : wr.cell? ⟨gb149, 3, none⟩ = some (.slice none 0 0) := (uF BK149.out 3).trans rfl
     have hfz40_0 := uI BK149.out 0
     have hfz40_1 := uI BK149.out 1
     have hfz40_2 := uI BK149.out 2
     have hfz40_3 := uI BK149.out 3
     go_wp2
     repeat (go_quiet (fail); try go_wp2)
     refine bodyPost_ret (results_cell_row rfl _ _ gb149 29 #[.int .i64 a0_0, .int .i64 a0_1, .bool a0_2, .slice Ao37 x3_1.length co37] (0, 0) _ rfl (by (with_reducible repeat (first | refine uH ?_ _ | refine uJ ?_ | refine uG ?_ _)); refine uP (cs := #[.int .i64 a0_0, .int .i64 a0_1, .bool a0_2, .slice none 0 0]) ?_ 3 _ rfl; (with_reducible repeat (first | refine uH ?_ _ | refine uJ ?_ | refine uG ?_ _)); refine uP (cs := #[.int .i64 a0_0, .int .i64 a0_1, .bool false, .slice none 0 0]) ?_ 2 _ rfl; (with_reducible repeat (first | refine uH ?_ _ | refine uJ ?_ | refine uG ?_ _)); refine uP (cs := #[.int .i64 a0_0, .int .i64 0, .bool false, .slice none 0 0]) ?_ 1 _ rfl; (with_reducible repeat (first | refine uH ?_ _ | refine uJ ?_ | refine uG ?_ _)); refine uP (cs := #[.int .i64 0, .int .i64 0, .bool false, .slice none 0 0]) ?_ 0 _ rfl; (with_reducible repeat (first | refine uH ?_ _ | refine uJ ?_ | refine uG ?_ _)); refine uQ ?_ NB149_148.out _; (with_reducible repeat (first | refine uH ?_ _ | refine uJ ?_ | refine uG ?_ _)); exact BK149.out) Try.underlying29 rfl (by kernel_rfl)) rfl ?_
     exact ⟨_, by first | rfl | (simp [errW_none, errW_some] <;> rfl) | (simp [*, errW_none, errW_some] <;> rfl), by (with_reducible repeat (first | apply uU | apply uS | apply uT)); exact uX (uV (p := ⟨gb149, 3, none⟩) (uV (p := ⟨gb149, 2, none⟩) (uV (p := ⟨gb149, 1, none⟩) (uV (p := ⟨gb149, 0, none⟩) (uV (p := ⟨gb148, 3, none⟩) (uW (uW HO_3.out BK148.out (by decide)) BK149.out (by decide)) (fun _ hk => hk.1.2) (.slice Ao37 x3_1.length co37)) (fun _ hk => hk.2) (.int .i64 a0_0)) (fun _ hk => hk.2) (.int .i64 a0_1)) (fun _ hk => hk.2) (.bool a0_2)) (fun _ hk => hk.2) (.slice Ao37 x3_1.length co37)) (fun _ hk => trivial), by repeat (first | (with_reducible first | exact HB.out | apply uL | apply uE | apply uK | refine uM ?_ GE148.out | refine uM ?_ GE149.out) | exact HB.out)⟩
 ·rw [if_neg c2] at H
  exact absurd H (by simp)

/-! ### spec_Run: function 34 -/
mutual
def spec_Run.j0 : Nat → Int → List (S56) → Bool → Int → Int → Bool → List (S53) → Option (Int × Int × Bool × (List (S53)) × (List (S56)))
 | 0, _, _, _, _, _, _, _ => none
 | k + 1, x1, x6, x21, x165000, x165001, x165002, x165003 => if x21 = true then (some (x165000, x165001, x165002, x165003, x6)) else (spec_Run.l0 k x1 x6 0 x165000 x165001 x165002 x165003)
def spec_Run.l0 : Nat → Int → List (S56) → Int → Int → Int → Bool → List (S53) → Option (Int × Int × Bool × (List (S53)) × (List (S56)))
 | 0, _, _, _, _, _, _, _ => none
 | k + 1, x1, x6, x7, x165000, x165001, x165002, x165003 => if x7 < x1 then ((spec_Leave.f k x165000 x165001 x165002 x165003).bind fun bt177 => (if bt177.2.2.2.2.2 = true then (if x6.length < 8796093022208 then ((spec_l02Step.f k bt177.1 bt177.2.1 bt177.2.2.1 bt177.2.2.2.1).bind fun bt189 => (spec_Run.l0 k x1 (x6 ++ [(⟨bt177.2.2.2.2.1, x7⟩ : S56)]) (wrap64 (x7 + 1)) bt189.1 bt189.2.1 bt189.2.2.1 bt189.2.2.2)) else (none)) else ((spec_l02Step.f k bt177.1 bt177.2.1 bt177.2.2.1 bt177.2.2.2.1).bind fun bt195 => (spec_Run.l0 k x1 x6 (wrap64 (x7 + 1)) bt195.1 bt195.2.1 bt195.2.2.1 bt195.2.2.2)))) else (some (x165000, x165001, x165002, x165003, x6))
end
def spec_Run.f (k : Nat) (a0_0 : Int) (a0_1 : Int) (a0_2 : Bool) (l0_3 : List (S53)) (a1 : Int) : Option (Int × Int × Bool × (List (S53)) × (List (S56))) := (spec_l02Fresh.f a0_0 a0_1 a0_2 l0_3).bind fun bt166 => ((some (([] : List (S56)) : List (S56))).bind fun y172 => ((spec_BeltOk.f k bt166.1 bt166.2.1 bt166.2.2.1 bt166.2.2.2).bind fun t175 => (if t175 = true then ((spec_l01In.f a1 0 2000).bind fun t176 => (spec_Run.j0 k a1 y172 (!t176) bt166.1 bt166.2.1 bt166.2.2.1 bt166.2.2.2)) else (spec_Run.j0 k a1 y172 true bt166.1 bt166.2.1 bt166.2.2.1 bt166.2.2.2))))
theorem spec_Run.mono_l : ∀ k, (∀ y0 y1 y2 y3 y4 y5 y6, LeO (spec_Run.j0 k y0 y1 y2 y3 y4 y5 y6) (spec_Run.j0 (k + 1) y0 y1 y2 y3 y4 y5 y6)) ∧ (∀ y0 y1 y2 y3 y4 y5 y6, LeO (spec_Run.l0 k y0 y1 y2 y3 y4 y5 y6) (spec_Run.l0 (k + 1) y0 y1 y2 y3 y4 y5 y6))
 | 0 => ⟨fun _ _ _ _ _ _ _ r h => by simp [spec_Run.j0] at h, fun _ _ _ _ _ _ _ r h => by simp [spec_Run.l0] at h⟩
 | k + 1 => by
  obtain ⟨ih0, ih1⟩ := spec_Run.mono_l k
  refine ⟨?_, ?_⟩
  ·intro y0 y1 y2 y3 y4 y5 y6
   unfold spec_Run.j0
   repeat' first
   | (with_reducible exact ih0 _ _ _ _ _ _ _)
   | (with_reducible exact ih1 _ _ _ _ _ _ _)
   | (with_reducible exact spec_BeltOk.mono _ _ _ _ _)
   | (with_reducible exact spec_Leave.mono _ _ _ _ _)
   | (with_reducible exact spec_l02Step.mono _ _ _ _ _)
   | (with_reducible exact LeO.refl _)
   | (with_reducible exact LeO.none _)
   | (with_reducible refine LeO.ite ?_ ?_)
   | (with_reducible refine LeO.bind ?_ (fun _ => ?_))
   | exact ih0 _ _ _ _ _ _ _
   | exact ih1 _ _ _ _ _ _ _
   | exact spec_BeltOk.mono _ _ _ _ _
   | exact spec_Leave.mono _ _ _ _ _
   | exact spec_l02Step.mono _ _ _ _ _
   | exact LeO.none _
   | refine LeO.ite ?_ ?_
   | refine LeO.bind ?_ (fun _ => ?_)
  ·intro y0 y1 y2 y3 y4 y5 y6
   unfold spec_Run.l0
   repeat' first
   | (with_reducible exact ih0 _ _ _ _ _ _ _)
   | (with_reducible exact ih1 _ _ _ _ _ _ _)
   | (with_reducible exact spec_BeltOk.mono _ _ _ _ _)
   | (with_reducible exact spec_Leave.mono _ _ _ _ _)
   | (with_reducible exact spec_l02Step.mono _ _ _ _ _)
   | (with_reducible exact LeO.refl _)
   | (with_reducible exact LeO.none _)
   | (with_reducible refine LeO.ite ?_ ?_)
   | (with_reducible refine LeO.bind ?_ (fun _ => ?_))
   | exact ih0 _ _ _ _ _ _ _
   | exact ih1 _ _ _ _ _ _ _
   | exact spec_BeltOk.mono _ _ _ _ _
   | exact spec_Leave.mono _ _ _ _ _
   | exact spec_l02Step.mono _ _ _ _ _
   | exact LeO.none _
   | refine LeO.ite ?_ ?_
   | refine LeO.bind ?_ (fun _ => ?_)
theorem spec_Run.mono : ∀ a0 a1 a2 a3 a4 k, LeO (spec_Run.f k a0 a1 a2 a3 a4) (spec_Run.f (k + 1) a0 a1 a2 a3 a4) := by
 intro a0 a1 a2 a3 a4 k
 obtain ⟨ih0, ih1⟩ := spec_Run.mono_l k
 unfold spec_Run.f
 repeat' first
   | (with_reducible exact ih0 _ _ _ _ _ _ _)
   | (with_reducible exact ih1 _ _ _ _ _ _ _)
   | (with_reducible exact spec_BeltOk.mono _ _ _ _ _)
   | (with_reducible exact spec_Leave.mono _ _ _ _ _)
   | (with_reducible exact spec_l02Step.mono _ _ _ _ _)
   | (with_reducible exact LeO.refl _)
   | (with_reducible exact LeO.none _)
   | (with_reducible refine LeO.ite ?_ ?_)
   | (with_reducible refine LeO.bind ?_ (fun _ => ?_))
   | exact ih0 _ _ _ _ _ _ _
   | exact ih1 _ _ _ _ _ _ _
   | exact spec_BeltOk.mono _ _ _ _ _
   | exact spec_Leave.mono _ _ _ _ _
   | exact spec_l02Step.mono _ _ _ _ _
   | exact LeO.none _
   | refine LeO.ite ?_ ?_
   | refine LeO.bind ?_ (fun _ => ?_)
set_option maxHeartbeats 8000000 in
set_option maxRecDepth 100000 in
theorem spec_Run.calls (k : Nat) (a0_0 : Int) (a0_1 : Int) (a0_2 : Bool) (A0_3 : Option Addr) (c0_3 : Nat) (l0_3 : List (S53)) (a1 : Int) (r1 : Int) (r2 : Int) (r3 : Bool) (r4 : List (S53)) (r5 : List (S56)) (w : World) (hr0_3 : Kd.C k53 w A0_3 l0_3.length l0_3) (hc0_3 : l0_3.length ≤ c0_3) (h : spec_Run.f k a0_0 a0_1 a0_2 l0_3 a1 = some (r1, r2, r3, r4, r5)) :
  Calls Try.prog 34 #[.agg #[.int .i64 a0_0, .int .i64 a0_1, .bool a0_2, .slice A0_3 l0_3.length c0_3], .int .i64 a1] w fun e w' => ∃ v3_ v4_ : Value, e = .returned (.tuple #[.agg #[.int .i64 r1, .int .i64 r2, .bool r3, v3_], v4_]) ∧ Kd.R k53 53 w' w.heap.size (fun _ => True) v3_ r4 ∧ Kd.R k56 56 w' w.heap.size (fun _ => True) v4_ r5 ∧ Below w.heap.size w w' := by
 have hu29 := Try.underlying29
 have hu56 := Try.underlying56
 have HR0_3 := uD hr0_3
 have HC0_3 := uD hc0_3
 clear hr0_3 hc0_3
 have HB := uD (Below.refl w.heap.size w)
 have H : ((spec_l02Fresh.f a0_0 a0_1 a0_2 l0_3).bind fun bt166 => ((some (([] : List (S56)) : List (S56))).bind fun y172 => ((spec_BeltOk.f k bt166.1 bt166.2.1 bt166.2.2.1 bt166.2.2.2).bind fun t175 => (if t175 = true then ((spec_l01In.f a1 0 2000).bind fun t176 => (spec_Run.j0 k a1 y172 (!t176) bt166.1 bt166.2.1 bt166.2.2.1 bt166.2.2.2)) else (spec_Run.j0 k a1 y172 true bt166.1 bt166.2.1 bt166.2.2.1 bt166.2.2.2))))) = some (r1, r2, r3, r4, r5) := h
 clear h
 replace H := Option.bind_eq_some_iff.mp H
 obtain ⟨⟨t166, t167, t168, t169⟩, A30, H⟩ := H
 replace H : ((some (([] : List (S56)) : List (S56))).bind fun y172 => ((spec_BeltOk.f k t166 t167 t168 t169).bind fun t175 => (if t175 = true then ((spec_l01In.f a1 0 2000).bind fun t176 => (spec_Run.j0 k a1 y172 (!t176) t166 t167 t168 t169)) else (spec_Run.j0 k a1 y172 true t166 t167 t168 t169)))) = some (r1, r2, r3, r4, r5) := H
 have A3 := uD A30
 clear A30
 obtain ⟨y172, hy172⟩ : ∃ y_ : List (S56), y_ = (([] : List (S56))) := ⟨_, rfl⟩
 replace H : ((spec_BeltOk.f k t166 t167 t168 t169).bind fun t175 => (if t175 = true then ((spec_l01In.f a1 0 2000).bind fun t176 => (spec_Run.j0 k a1 y172 (!t176) t166 t167 t168 t169)) else (spec_Run.j0 k a1 y172 true t166 t167 t168 t169))) = some (r1, r2, r3, r4, r5) := by first | (rw [hy172]; with_reducible exact H) | (have H2_ := (Option.bind_some _ _).symm.trans H; rw [hy172]; with_reducible exact H2_) | (have H2_ := (Option.bind_some _ _).symm.trans H; with_reducible exact H2_) | with_reducible exact H | (rw [hy172]; exact H) | exact H
 have Ny172 := uD hy172
 clear hy172
 have HC4 := uD H
 clear H
 go_enter Try.func34, Try.ntmps34
 go_upto_region 3 with (first | ((with_reducible refine gate_dst (N := 2) rfl ?_); refine box_event ?hg (N := 2) ?hd (cs := #[.int .i64 a0_0, .int .i64 a0_1, .bool a0_2, .slice A0_3 l0_3.length c0_3]) (t := 29) ?hr ?_; (case hd => rfl); (case hg => rfl); (case hr => first | (go_simp; done) | (go_simp; rfl)); intro gb164 hg w5 hbox hb; have BK164 := uD (hbox); have GW164 := uD ((by rw [hg]; exact (uN (by repeat (first | (with_reducible first | exact HB.out | apply uL | apply uE | apply uK) | exact HB.out))) : w.heap.size ≤ gb164)); have GE164 := uD ((by rw [hg]; exact (uN (by repeat (first | (with_reducible first | exact HB.out | apply uL | apply uE | apply uK) | exact HB.out))) : w.heap.size ≤ gb164)); replace HB := uD (uO (by repeat (first | (with_reducible first | exact HB.out | apply uL | apply uE | apply uK) | exact HB.out)) hb); clear hb hbox hg) | ((with_reducible refine gate_dst (N := 4) rfl ?_); refine box_event ?hg (N := 4) ?hd (cs := #[.int .i64 0, .int .i64 0, .bool false, .slice none 0 0]) (t := 29) ?hr ?_; (case hd => rfl); (case hg => rfl); (case hr => first | (go_simp; done) | (go_simp; rfl)); intro gb165 hg w6 hbox hb; have BK165 := uD (hbox); have GW165 := uD ((by rw [hg]; exact (uN (by repeat (first | (with_reducible first | exact HB.out | apply uL | apply uE | apply uK | refine uM ?_ GE164.out) | exact HB.out))) : w.heap.size ≤ gb165)); have GE165 := uD ((by rw [hg]; exact (uN (by repeat (first | (with_reducible first | exact HB.out | apply uL | apply uE | apply uK | refine uM ?_ GE164.out) | exact HB.out))) : w.heap.size ≤ gb165)); replace HB := uD (uO (by repeat (first | (with_reducible first | exact HB.out | apply uL | apply uE | apply uK | refine uM ?_ GE164.out) | exact HB.out)) hb); have NB164_165 := uD ((by rw [hg]; exact Nat.ne_of_lt (blk_lt (g := gb164) (o := .cells #[.int .i64 a0_0, .int .i64 a0_1, .bool a0_2, .slice A0_3 l0_3.length c0_3] 29 (0, 0)) (by (with_reducible repeat (first | refine uH ?_ _ | refine uJ ?_ | refine uG ?_ _)); exact BK164.out)) : gb164 ≠ gb165)); have NB165_164 := uD ((by rw [hg]; exact Nat.ne_of_gt (blk_lt (g := gb164) (o := .cells #[.int .i64 a0_0, .int .i64 a0_1, .bool a0_2, .slice A0_3 l0_3.length c0_3] 29 (0, 0)) (by (with_reducible repeat (first | refine uH ?_ _ | refine uJ ?_ | refine uG ?_ _)); exact BK164.out)) : gb165 ≠ gb164)); replace BK164 := uD (blk_below (g := gb164) (o := .cells #[.int .i64 a0_0, .int .i64 a0_1, .bool a0_2, .slice A0_3 l0_3.length c0_3] 29 (0, 0)) (by (with_reducible repeat (first | refine uH ?_ _ | refine uJ ?_ | refine uG ?_ _)); exact BK164.out) hb); clear hb hbox hg; have hnb7 := NB164_165.out; have hnc7 := NB165_164.out; have hcz8_0 : w6.cell? ⟨gb164, 0, none⟩ = some (.int .i64 a0_0) := (uF BK164.out 0).trans rfl; have hcz8_1 : w6.cell? ⟨gb164, 1, none⟩ = some (.int .i64 a0_1) := (uF BK164.out 1).trans rfl; have hcz8_2 : w6.cell? ⟨gb164, 2, none⟩ = some (.bool a0_2) := (uF BK164.out 2).trans rfl; have hcz8_3 : w6.cell? ⟨gb164, 3, none⟩ = some (.slice A0_3 l0_3.length c0_3) := (uF BK164.out 3).trans rfl; have hfz8_0 := uI BK164.out 0; have hfz8_1 := uI BK164.out 1; have hfz8_2 := uI BK164.out 2; have hfz8_3 := uI BK164.out 3) | ((with_reducible refine gate_callee (f := 55) rfl ?_); refine goesL_ (some 12) rfl rfl Try.func55 (by kernel_rfl) rfl #[.agg #[.int .i64 a0_0, .int .i64 a0_1, .bool a0_2, .slice A0_3 l0_3.length c0_3]] rfl (by (try simp only [List.map_toArray, List.map_cons, List.map_nil]); first | done | rfl | (simp only [List.length_drop, List.length_take]; rfl)) ?_; (with_reducible refine (spec_l02Fresh.calls a0_0 a0_1 a0_2 _ _ l0_3 t166 t167 t168 t169 _ ?side1 ?side2 A3.out).mono ?_); (case side1 => repeat (first | exact (Kd.C_below HR0_3.out HB.out) | (with_reducible refine Kd.C_alloc ?_ _) | (with_reducible refine Kd.C_drewN ?_ _) | (with_reducible refine Kd.C_drew ?_))); (case side2 => exact HC0_3.out); rintro e w9 ⟨v170, rfl, ho0, hb⟩; refine ⟨_, rfl, ?_⟩; have HO171 := uD (Kd.R_lower ho0 (uN (by repeat (first | (with_reducible first | exact HB.out | apply uL | apply uE | apply uK | refine uM ?_ GE164.out | refine uM ?_ GE165.out) | exact HB.out)))); replace BK164 := uD (blk_below (g := gb164) (o := .cells #[.int .i64 a0_0, .int .i64 a0_1, .bool a0_2, .slice A0_3 l0_3.length c0_3] 29 (0, 0)) (by (with_reducible repeat (first | refine uH ?_ _ | refine uJ ?_ | refine uG ?_ _)); exact BK164.out) hb); replace BK165 := uD (blk_below (g := gb165) (o := .cells #[.int .i64 0, .int .i64 0, .bool false, .slice none 0 0] 29 (0, 0)) (by (with_reducible repeat (first | refine uH ?_ _ | refine uJ ?_ | refine uG ?_ _)); exact BK165.out) hb); replace HB := uD (uO (by repeat (first | (with_reducible first | exact HB.out | apply uL | apply uE | apply uK | refine uM ?_ GE164.out | refine uM ?_ GE165.out) | exact HB.out)) hb); (try clear hb); (try clear hb2); (try clear hk); (try clear hi); (try clear ho0); have hcz10_0 : w9.cell? ⟨gb164, 0, none⟩ = some (.int .i64 a0_0) := (uF BK164.out 0).trans rfl; have hcz10_1 : w9.cell? ⟨gb164, 1, none⟩ = some (.int .i64 a0_1) := (uF BK164.out 1).trans rfl; have hcz10_2 : w9.cell? ⟨gb164, 2, none⟩ = some (.bool a0_2) := (uF BK164.out 2).trans rfl; have hcz10_3 : w9.cell? ⟨gb164, 3, none⟩ = some (.slice A0_3 l0_3.length c0_3) := (uF BK164.out 3).trans rfl; have hfz10_0 := uI BK164.out 0; have hfz10_1 := uI BK164.out 1; have hfz10_2 := uI BK164.out 2; have hfz10_3 := uI BK164.out 3; obtain ⟨Ao11, co11, eo11⟩ := Kd.R_slice HO171.out; subst eo11) | ((with_reducible refine gate_dst (N := 13) rfl ?_); refine Kd.R_lit k56 _ 56 ?hg (N := 13) ?hd (xs := ([] : List (S56))) (inner := []) (ok := fun _ => True) (okp := fun _ => True) ?hr ?hp (fun _ hk => hk) trivial (Below.refl _ _) (Nat.le_refl _) (by simp) ?_; (case hd => rfl); (case hg => rfl); (case hr => first | (go_simp; done) | (go_simp; rfl)); (case hp => exact (Reps.none _ _)); intro v173 w12 ho13 hb hg_ hnew_; clear hg_ hnew_; (first | rw [← Ny172.out] at ho13 | (simp only [Int.reduceToNat] at ho13; rw [← Ny172.out] at ho13)); replace HO171 := uD (Kd.R_below (by (with_reducible repeat (first | apply uU | apply uS | apply uT)); exact (uX (uV (p := ⟨gb164, 3, none⟩) (uV (p := ⟨gb164, 2, none⟩) (uV (p := ⟨gb164, 1, none⟩) (uV (p := ⟨gb164, 0, none⟩) (uW HO171.out BK164.out (by decide)) (fun _ hk => hk.2) (.int .i64 t166)) (fun _ hk => hk.2) (.int .i64 t167)) (fun _ hk => hk.2) (.bool t168)) (fun _ hk => hk.2) (.slice Ao11 t169.length co11)) (fun _ h_ => h_.1))) hb); have HO174 := uD (Kd.R_lower ho13 (uN (by repeat (first | (with_reducible first | exact HB.out | apply uL | apply uE | apply uK | refine uM ?_ GE164.out | refine uM ?_ GE165.out) | exact HB.out)))); replace BK164 := uD (blk_below (g := gb164) (o := .cells #[.int .i64 t166, .int .i64 t167, .bool t168, .slice Ao11 t169.length co11] 29 (0, 0)) (by (with_reducible repeat (first | refine uH ?_ _ | refine uJ ?_ | refine uG ?_ _)); refine uP (cs := #[.int .i64 t166, .int .i64 t167, .bool t168, .slice A0_3 l0_3.length c0_3]) ?_ 3 _ rfl; (with_reducible repeat (first | refine uH ?_ _ | refine uJ ?_ | refine uG ?_ _)); refine uP (cs := #[.int .i64 t166, .int .i64 t167, .bool a0_2, .slice A0_3 l0_3.length c0_3]) ?_ 2 _ rfl; (with_reducible repeat (first | refine uH ?_ _ | refine uJ ?_ | refine uG ?_ _)); refine uP (cs := #[.int .i64 t166, .int .i64 a0_1, .bool a0_2, .slice A0_3 l0_3.length c0_3]) ?_ 1 _ rfl; (with_reducible repeat (first | refine uH ?_ _ | refine uJ ?_ | refine uG ?_ _)); refine uP (cs := #[.int .i64 a0_0, .int .i64 a0_1, .bool a0_2, .slice A0_3 l0_3.length c0_3]) ?_ 0 _ rfl; (with_reducible repeat (first | refine uH ?_ _ | refine uJ ?_ | refine uG ?_ _)); exact BK164.out) hb); replace BK165 := uD (blk_below (g := gb165) (o := .cells #[.int .i64 0, .int .i64 0, .bool false, .slice none 0 0] 29 (0, 0)) (by (with_reducible repeat (first | refine uH ?_ _ | refine uJ ?_ | refine uG ?_ _)); refine uQ ?_ NB165_164.out _; (with_reducible repeat (first | refine uH ?_ _ | refine uJ ?_ | refine uG ?_ _)); refine uQ ?_ NB165_164.out _; (with_reducible repeat (first | refine uH ?_ _ | refine uJ ?_ | refine uG ?_ _)); refine uQ ?_ NB165_164.out _; (with_reducible repeat (first | refine uH ?_ _ | refine uJ ?_ | refine uG ?_ _)); refine uQ ?_ NB165_164.out _; (with_reducible repeat (first | refine uH ?_ _ | refine uJ ?_ | refine uG ?_ _)); exact BK165.out) hb); replace HB := uD (uO (by repeat (first | (with_reducible first | exact HB.out | apply uL | apply uE | apply uK | refine uM ?_ GE164.out | refine uM ?_ GE165.out) | exact HB.out)) hb); clear hb ho13))
 (try simp only [uc, uA, uB, uC])
 go_cut [21] (fun v21 wc => ∃ (kq : Nat) (x21_3 : Bool), v21 = .bool x21_3 ∧ Aside0 (spec_Run.j0 kq a1 y172 x21_3 t166 t167 t168 t169 = some (r1, r2, r3, r4, r5)) ∧ Aside0 (kq ≤ k) ∧ Aside0 (Kd.R k56 56 wc w.heap.size (fun _ => True) v173 y172) ∧ Aside0 (Kd.R k53 53 wc w.heap.size (fun _ => True) (.slice Ao11 t169.length co11) t169) ∧ Aside0 (wc.heap[gb164]? = some (.cells #[.int .i64 t166, .int .i64 t167, .bool t168, (.slice Ao11 t169.length co11)] 29 (0, 0))) ∧ Aside0 (wc.heap[gb165]? = some (.cells #[.int .i64 0, .int .i64 0, .bool false, (.slice none 0 0)] 29 (0, 0))) ∧ Aside0 (Below w.heap.size w wc))
 case first =>
  have H := HC4.out
  clear HC4
  replace H := Option.bind_eq_some_iff.mp H
  obtain ⟨t175, A140, H⟩ := H
  replace H : (if t175 = true then ((spec_l01In.f a1 0 2000).bind fun t176 => (spec_Run.j0 k a1 y172 (!t176) t166 t167 t168 t169)) else (spec_Run.j0 k a1 y172 true t166 t167 t168 t169)) = some (r1, r2, r3, r4, r5) := H
  have A14 := uD A140
  clear A140
  by_cases c15 : t175 = true
  ·subst c15
   have H1 : ((spec_l01In.f a1 0 2000).bind fun t176 => (spec_Run.j0 k a1 y172 (!t176) t166 t167 t168 t169)) = some (r1, r2, r3, r4, r5) := by rw [if_pos rfl] at H; first | done | exact H
   clear H
   have H := H1
   clear H1
   replace H := Option.bind_eq_some_iff.mp H
   obtain ⟨t176, A160, H⟩ := H
   replace H : (spec_Run.j0 k a1 y172 (!t176) t166 t167 t168 t169) = some (r1, r2, r3, r4, r5) := H
   have A16 := uD A160
   clear A160
   have H' := uD H
   clear H
   have hnb17 := NB164_165.out
   have hnc17 := NB165_164.out
   have hcz18_0 : w12.cell? ⟨gb164, 0, none⟩ = some (.int .i64 t166) := (uF BK164.out 0).trans rfl
   have hcz18_1 : w12.cell? ⟨gb164, 1, none⟩ = some (.int .i64 t167) := (uF BK164.out 1).trans rfl
   have hcz18_2 : w12.cell? ⟨gb164, 2, none⟩ = some (.bool t168) := (uF BK164.out 2).trans rfl
   have hcz18_3 : w12.cell? ⟨gb164, 3, none⟩ = some (.slice Ao11 t169.length co11) := (uF BK164.out 3).trans rfl
   have hfz18_0 := uI BK164.out 0
   have hfz18_1 := uI BK164.out 1
   have hfz18_2 := uI BK164.out 2
   have hfz18_3 := uI BK164.out 3
   go_wp2_with (first | ((with_reducible refine gate_callee (f := 16) rfl ?_); refine goesL_ (some 15) rfl rfl Try.func16 (by kernel_rfl) rfl #[.agg #[.int .i64 t166, .int .i64 t167, .bool t168, .slice Ao11 t169.length co11]] rfl (by (try simp only [List.map_toArray, List.map_cons, List.map_nil]); first | done | rfl | (simp only [List.length_drop, List.length_take]; rfl)) ?_; (with_reducible refine (spec_BeltOk.calls k t166 t167 t168 _ _ t169 true _ ?side1 ?side2 A14.out).mono ?_); (case side1 => repeat (first | exact (Kd.R_reads' HO171.out).2.2 | (with_reducible refine Kd.C_alloc ?_ _) | (with_reducible refine Kd.C_drewN ?_ _) | (with_reducible refine Kd.C_drew ?_))); (case side2 => exact (Kd.R_reads' HO171.out).2.1); rintro e w19 ⟨rfl, hb⟩; refine ⟨_, rfl, ?_⟩; replace HO171 := uD (Kd.R_below (by (with_reducible repeat (first | apply uU | apply uS | apply uT)); exact HO171.out) hb); replace HO174 := uD (Kd.R_below (by (with_reducible repeat (first | apply uU | apply uS | apply uT)); exact HO174.out) hb); replace BK164 := uD (blk_below (g := gb164) (o := .cells #[.int .i64 t166, .int .i64 t167, .bool t168, .slice Ao11 t169.length co11] 29 (0, 0)) (by (with_reducible repeat (first | refine uH ?_ _ | refine uJ ?_ | refine uG ?_ _)); exact BK164.out) hb); replace BK165 := uD (blk_below (g := gb165) (o := .cells #[.int .i64 0, .int .i64 0, .bool false, .slice none 0 0] 29 (0, 0)) (by (with_reducible repeat (first | refine uH ?_ _ | refine uJ ?_ | refine uG ?_ _)); exact BK165.out) hb); replace HB := uD (uO (by repeat (first | (with_reducible first | exact HB.out | apply uL | apply uE | apply uK | refine uM ?_ GE164.out | refine uM ?_ GE165.out) | exact HB.out)) hb); (try clear hb); (try clear hb2); (try clear hk); (try clear hi)) | (go_at_call 48; (with_reducible refine (spec_l01In.calls a1 0 2000 t176 _ A16.out).mono ?_); rintro e w' ⟨rfl, ⟨nd, rfl⟩⟩))
   go_meet
   case rel => exact ⟨_, (!t176), (by first | rfl | (simp; done) | (simp [*]; done)), H', ⟨by first | omega | exact Nat.le_refl _⟩, ⟨by (with_reducible repeat (first | apply uU | apply uS | apply uT)); exact HO174.out⟩, ⟨by (with_reducible repeat (first | apply uU | apply uS | apply uT)); exact HO171.out⟩, ⟨by (with_reducible repeat (first | refine uH ?_ _ | refine uJ ?_ | refine uG ?_ _)); exact BK164.out⟩, ⟨by (with_reducible repeat (first | refine uH ?_ _ | refine uJ ?_ | refine uG ?_ _)); exact BK165.out⟩, ⟨by repeat (first | (with_reducible first | exact HB.out | apply uL | apply uE | apply uK | refine uM ?_ GE164.out | refine uM ?_ GE165.out) | exact HB.out)⟩⟩
  ·replace c15 := Bool.eq_false_iff.mpr c15
   subst c15
   have H1 : (spec_Run.j0 k a1 y172 true t166 t167 t168 t169) = some (r1, r2, r3, r4, r5) := by rw [if_neg (show ¬ (false = true) by decide)] at H; first | done | exact H
   clear H
   have H := H1
   clear H1
   have H' := uD H
   clear H
   have hnb20 := NB164_165.out
   have hnc20 := NB165_164.out
   have hcz21_0 : w12.cell? ⟨gb164, 0, none⟩ = some (.int .i64 t166) := (uF BK164.out 0).trans rfl
   have hcz21_1 : w12.cell? ⟨gb164, 1, none⟩ = some (.int .i64 t167) := (uF BK164.out 1).trans rfl
   have hcz21_2 : w12.cell? ⟨gb164, 2, none⟩ = some (.bool t168) := (uF BK164.out 2).trans rfl
   have hcz21_3 : w12.cell? ⟨gb164, 3, none⟩ = some (.slice Ao11 t169.length co11) := (uF BK164.out 3).trans rfl
   have hfz21_0 := uI BK164.out 0
   have hfz21_1 := uI BK164.out 1
   have hfz21_2 := uI BK164.out 2
   have hfz21_3 := uI BK164.out 3
   go_wp2_with (first | ((with_reducible refine gate_callee (f := 16) rfl ?_); refine goesL_ (some 15) rfl rfl Try.func16 (by kernel_rfl) rfl #[.agg #[.int .i64 t166, .int .i64 t167, .bool t168, .slice Ao11 t169.length co11]] rfl (by (try simp only [List.map_toArray, List.map_cons, List.map_nil]); first | done | rfl | (simp only [List.length_drop, List.length_take]; rfl)) ?_; (with_reducible refine (spec_BeltOk.calls k t166 t167 t168 _ _ t169 false _ ?side1 ?side2 A14.out).mono ?_); (case side1 => repeat (first | exact (Kd.R_reads' HO171.out).2.2 | (with_reducible refine Kd.C_alloc ?_ _) | (with_reducible refine Kd.C_drewN ?_ _) | (with_reducible refine Kd.C_drew ?_))); (case side2 => exact (Kd.R_reads' HO171.out).2.1); rintro e w22 ⟨rfl, hb⟩; refine ⟨_, rfl, ?_⟩; replace HO171 := uD (Kd.R_below (by (with_reducible repeat (first | apply uU | apply uS | apply uT)); exact HO171.out) hb); replace HO174 := uD (Kd.R_below (by (with_reducible repeat (first | apply uU | apply uS | apply uT)); exact HO174.out) hb); replace BK164 := uD (blk_below (g := gb164) (o := .cells #[.int .i64 t166, .int .i64 t167, .bool t168, .slice Ao11 t169.length co11] 29 (0, 0)) (by (with_reducible repeat (first | refine uH ?_ _ | refine uJ ?_ | refine uG ?_ _)); exact BK164.out) hb); replace BK165 := uD (blk_below (g := gb165) (o := .cells #[.int .i64 0, .int .i64 0, .bool false, .slice none 0 0] 29 (0, 0)) (by (with_reducible repeat (first | refine uH ?_ _ | refine uJ ?_ | refine uG ?_ _)); exact BK165.out) hb); replace HB := uD (uO (by repeat (first | (with_reducible first | exact HB.out | apply uL | apply uE | apply uK | refine uM ?_ GE164.out | refine uM ?_ GE165.out) | exact HB.out)) hb); (try clear hb); (try clear hb2); (try clear hk); (try clear hi)))
   go_meet
   case rel => exact ⟨_, (true), (by first | rfl | (simp; done) | (simp [*]; done)), H', ⟨by first | omega | exact Nat.le_refl _⟩, ⟨by (with_reducible repeat (first | apply uU | apply uS | apply uT)); exact HO174.out⟩, ⟨by (with_reducible repeat (first | apply uU | apply uS | apply uT)); exact HO171.out⟩, ⟨by (with_reducible repeat (first | refine uH ?_ _ | refine uJ ?_ | refine uG ?_ _)); exact BK164.out⟩, ⟨by (with_reducible repeat (first | refine uH ?_ _ | refine uJ ?_ | refine uG ?_ _)); exact BK165.out⟩, ⟨by repeat (first | (with_reducible first | exact HB.out | apply uL | apply uE | apply uK | refine uM ?_ GE164.out | refine uM ?_ GE165.out) | exact HB.out)⟩⟩
 case rest =>
  clear HC4
  try clear c1
  try clear c2
  try clear p2
  try clear c3
  try clear c5
  try clear c7
  try clear c15
  try clear c16
  try clear c17
  try clear c20
  try clear hcz10_0
  try clear hcz10_1
  try clear hcz10_2
  try clear hcz10_3
  try clear hcz18_0
  try clear hcz18_1
  try clear hcz18_2
  try clear hcz18_3
  try clear hcz21_0
  try clear hcz21_1
  try clear hcz21_2
  try clear hcz21_3
  try clear hcz8_0
  try clear hcz8_1
  try clear hcz8_2
  try clear hcz8_3
  try clear hfz10_0
  try clear hfz10_1
  try clear hfz10_2
  try clear hfz10_3
  try clear hfz18_0
  try clear hfz18_1
  try clear hfz18_2
  try clear hfz18_3
  try clear hfz21_0
  try clear hfz21_1
  try clear hfz21_2
  try clear hfz21_3
  try clear hfz8_0
  try clear hfz8_1
  try clear hfz8_2
  try clear hfz8_3
  obtain ⟨kq, x21_3, rfl, HA, HJ3, HO_6, HO_165003, BK164, BK165, HB⟩ := hcut
  cases kq with
  | zero => exact absurd HA.out (by simp [spec_Run.j0])
  | succ kj3 =>
   have H := HA.out
   clear HA
   simp only [spec_Run.j0] at H
   by_cases c23 : x21_3 = true
   ·subst c23
    have H1 : (some (t166, t167, t168, t169, y172)) = some (r1, r2, r3, r4, r5) := by rw [if_pos rfl] at H; first | done | exact H
    clear H
    have H := H1
    clear H1
    simp only [Option.some.injEq, Prod.mk.injEq] at H
    obtain ⟨rfl, rfl, rfl, rfl, rfl⟩ := H
    have hnb24 := NB164_165.out
    have hnc24 := NB165_164.out
    have hcz25_0 : wc.cell? ⟨gb164, 0, none⟩ = some (.int .i64 t166) := (uF BK164.out 0).trans rfl
    have hcz25_1 : wc.cell? ⟨gb164, 1, none⟩ = some (.int .i64 t167) := (uF BK164.out 1).trans rfl
    have hcz25_2 : wc.cell? ⟨gb164, 2, none⟩ = some (.bool t168) := (uF BK164.out 2).trans rfl
    have hcz25_3 : wc.cell? ⟨gb164, 3, none⟩ = some (.slice Ao11 t169.length co11) := (uF BK164.out 3).trans rfl
    have hfz25_0 := uI BK164.out 0
    have hfz25_1 := uI BK164.out 1
    have hfz25_2 := uI BK164.out 2
    have hfz25_3 := uI BK164.out 3
    have hcz26_0 : wc.cell? ⟨gb165, 0, none⟩ = some (.int .i64 0) := (uF BK165.out 0).trans rfl
    have hcz26_1 : wc.cell? ⟨gb165, 1, none⟩ = some (.int .i64 0) := (uF BK165.out 1).trans rfl
    have hcz26_2 : wc.cell? ⟨gb165, 2, none⟩ = some (.bool false) := (uF BK165.out 2).trans rfl
    have hcz26_3 : wc.cell? ⟨gb165, 3, none⟩ = some (.slice none 0 0) := (uF BK165.out 3).trans rfl
    have hfz26_0 := uI BK165.out 0
    have hfz26_1 := uI BK165.out 1
    have hfz26_2 := uI BK165.out 2
    have hfz26_3 := uI BK165.out 3
    go_wp2
    refine bodyPost_ret (uR rfl _ _ gb165 29 #[.int .i64 t166, .int .i64 t167, .bool t168, .slice Ao11 t169.length co11] (0, 0) _ rfl (by (with_reducible repeat (first | refine uH ?_ _ | refine uJ ?_ | refine uG ?_ _)); refine uP (cs := #[.int .i64 t166, .int .i64 t167, .bool t168, .slice none 0 0]) ?_ 3 _ rfl; (with_reducible repeat (first | refine uH ?_ _ | refine uJ ?_ | refine uG ?_ _)); refine uP (cs := #[.int .i64 t166, .int .i64 t167, .bool false, .slice none 0 0]) ?_ 2 _ rfl; (with_reducible repeat (first | refine uH ?_ _ | refine uJ ?_ | refine uG ?_ _)); refine uP (cs := #[.int .i64 t166, .int .i64 0, .bool false, .slice none 0 0]) ?_ 1 _ rfl; (with_reducible repeat (first | refine uH ?_ _ | refine uJ ?_ | refine uG ?_ _)); refine uP (cs := #[.int .i64 0, .int .i64 0, .bool false, .slice none 0 0]) ?_ 0 _ rfl; (with_reducible repeat (first | refine uH ?_ _ | refine uJ ?_ | refine uG ?_ _)); exact BK165.out) Try.underlying29 rfl (by kernel_rfl)) rfl ?_
    exact ⟨_, _, by first | rfl | (simp [errW_none, errW_some] <;> rfl) | (simp [*, errW_none, errW_some] <;> rfl), by (with_reducible repeat (first | apply uU | apply uS | apply uT)); exact uX (uV (p := ⟨gb165, 3, none⟩) (uV (p := ⟨gb165, 2, none⟩) (uV (p := ⟨gb165, 1, none⟩) (uV (p := ⟨gb165, 0, none⟩) (uW HO_165003.out BK165.out (by decide)) (fun _ hk => hk.2) (.int .i64 t166)) (fun _ hk => hk.2) (.int .i64 t167)) (fun _ hk => hk.2) (.bool t168)) (fun _ hk => hk.2) (.slice Ao11 t169.length co11)) (fun _ hk => trivial), by (with_reducible repeat (first | apply uU | apply uS | apply uT)); exact uX (uV (p := ⟨gb165, 3, none⟩) (uV (p := ⟨gb165, 2, none⟩) (uV (p := ⟨gb165, 1, none⟩) (uV (p := ⟨gb165, 0, none⟩) (uW HO_6.out BK165.out (by decide)) (fun _ hk => hk.2) (.int .i64 t166)) (fun _ hk => hk.2) (.int .i64 t167)) (fun _ hk => hk.2) (.bool t168)) (fun _ hk => hk.2) (.slice Ao11 t169.length co11)) (fun _ hk => trivial), by repeat (first | (with_reducible first | exact HB.out | apply uL | apply uE | apply uK | refine uM ?_ GE164.out | refine uM ?_ GE165.out) | exact HB.out)⟩
   ·replace c23 := Bool.eq_false_iff.mpr c23
    subst c23
    have H1 : (spec_Run.l0 kj3 a1 y172 0 t166 t167 t168 t169) = some (r1, r2, r3, r4, r5) := by rw [if_neg (show ¬ (false = true) by decide)] at H; first | done | exact H
    clear H
    have H := H1
    clear H1
    have H' := uD H
    clear H
    go_wp2
    go_loopg [6, 7] kj3 (fun kq v6 v7 w' => ∃ (x6_2 : List (S56)) (x7_2 : Int) (x165000_2 : Int) (x165001_2 : Int) (x165002_2 : Bool) (x165003_2 : List (S53)) (u165003 : Value), v7 = .int .i64 x7_2 ∧ Aside0 (spec_Run.l0 kq a1 x6_2 x7_2 x165000_2 x165001_2 x165002_2 x165003_2 = some (r1, r2, r3, r4, r5)) ∧ Aside0 (kq ≤ kj3) ∧ Aside0 (Kd.R k56 56 w' w.heap.size (fun _ => True) v6 x6_2) ∧ Aside0 (Kd.R k53 53 w' w.heap.size (fun _ => True) u165003 x165003_2) ∧ Aside0 (w'.heap[gb164]? = some (.cells #[.int .i64 x165000_2, .int .i64 x165001_2, .bool x165002_2, u165003] 29 (0, 0))) ∧ Aside0 (w'.heap[gb165]? = some (.cells #[.int .i64 0, .int .i64 0, .bool false, (.slice none 0 0)] 29 (0, 0))) ∧ Aside0 (Below w.heap.size w w'))
    case atStart => exact ⟨(y172), (0), (t166), (t167), (t168), (t169), (.slice Ao11 t169.length co11), (by first | rfl | (simp; done) | (simp [*]; done)), H', ⟨Nat.le_refl _⟩, ⟨by (with_reducible repeat (first | apply uU | apply uS | apply uT)); exact HO_6.out⟩, ⟨by (with_reducible repeat (first | apply uU | apply uS | apply uT)); exact HO_165003.out⟩, ⟨by (with_reducible repeat (first | refine uH ?_ _ | refine uJ ?_ | refine uG ?_ _)); exact BK164.out⟩, ⟨by (with_reducible repeat (first | refine uH ?_ _ | refine uJ ?_ | refine uG ?_ _)); exact BK165.out⟩, ⟨by repeat (first | (with_reducible first | exact HB.out | apply uL | apply uE | apply uK | refine uM ?_ GE164.out | refine uM ?_ GE165.out) | exact HB.out)⟩⟩
    case round =>
     clear H'
     try clear c1
     try clear c2
     try clear p2
     try clear c3
     try clear c5
     try clear c7
     try clear c15
     try clear c16
     try clear c17
     try clear c20
     try clear c23
     try clear c24
     try clear hcz10_0
     try clear hcz10_1
     try clear hcz10_2
     try clear hcz10_3
     try clear hcz18_0
     try clear hcz18_1
     try clear hcz18_2
     try clear hcz18_3
     try clear hcz21_0
     try clear hcz21_1
     try clear hcz21_2
     try clear hcz21_3
     try clear hcz25_0
     try clear hcz25_1
     try clear hcz25_2
     try clear hcz25_3
     try clear hcz26_0
     try clear hcz26_1
     try clear hcz26_2
     try clear hcz26_3
     try clear hcz8_0
     try clear hcz8_1
     try clear hcz8_2
     try clear hcz8_3
     try clear hfz10_0
     try clear hfz10_1
     try clear hfz10_2
     try clear hfz10_3
     try clear hfz18_0
     try clear hfz18_1
     try clear hfz18_2
     try clear hfz18_3
     try clear hfz21_0
     try clear hfz21_1
     try clear hfz21_2
     try clear hfz21_3
     try clear hfz25_0
     try clear hfz25_1
     try clear hfz25_2
     try clear hfz25_3
     try clear hfz26_0
     try clear hfz26_1
     try clear hfz26_2
     try clear hfz26_3
     try clear hfz8_0
     try clear hfz8_1
     try clear hfz8_2
     try clear hfz8_3
     try clear p2
     obtain ⟨x6_2, x7_2, x165000_2, x165001_2, x165002_2, x165003_2, u165003, rfl, HA, HK2, HO_6, HO_165003, BK164, BK165, HB⟩ := hrel
     cases gk with
     | zero => exact absurd HA.out (by simp [spec_Run.l0])
     | succ k2 =>
      have H := HA.out
      clear HA
      simp only [spec_Run.l0] at H
      by_cases c27 : x7_2 < a1
      ·rw [if_pos c27] at H
       have c27b0 : decide (x7_2 < a1) = true := decide_eq_true c27
       clear c27
       replace H := Option.bind_eq_some_iff.mp H
       obtain ⟨⟨t177, t178, t179, t180, t183, t184⟩, A280, H⟩ := H
       replace H : (if t184 = true then (if x6_2.length < 8796093022208 then ((spec_l02Step.f k2 t177 t178 t179 t180).bind fun bt189 => (spec_Run.l0 k2 a1 (x6_2 ++ [(⟨t183, x7_2⟩ : S56)]) (wrap64 (x7_2 + 1)) bt189.1 bt189.2.1 bt189.2.2.1 bt189.2.2.2)) else (none)) else ((spec_l02Step.f k2 t177 t178 t179 t180).bind fun bt195 => (spec_Run.l0 k2 a1 x6_2 (wrap64 (x7_2 + 1)) bt195.1 bt195.2.1 bt195.2.2.1 bt195.2.2.2))) = some (r1, r2, r3, r4, r5) := H
       have A28 := uD A280
       clear A280
       by_cases c29 : t184 = true
       ·subst c29
        have H1 : (if x6_2.length < 8796093022208 then ((spec_l02Step.f k2 t177 t178 t179 t180).bind fun bt189 => (spec_Run.l0 k2 a1 (x6_2 ++ [(⟨t183, x7_2⟩ : S56)]) (wrap64 (x7_2 + 1)) bt189.1 bt189.2.1 bt189.2.2.1 bt189.2.2.2)) else (none)) = some (r1, r2, r3, r4, r5) := by rw [if_pos rfl] at H; first | done | exact H
        clear H
        have H := H1
        clear H1
        by_cases c30 : x6_2.length < 8796093022208
        ·rw [if_pos c30] at H
         have LMc30 := uD c30
         clear c30
         obtain ⟨y186, hy186⟩ : ∃ y_ : List (S56), y_ = (x6_2 ++ [(⟨t183, x7_2⟩ : S56)]) := ⟨_, rfl⟩
         replace H : ((spec_l02Step.f k2 t177 t178 t179 t180).bind fun bt189 => (spec_Run.l0 k2 a1 y186 (wrap64 (x7_2 + 1)) bt189.1 bt189.2.1 bt189.2.2.1 bt189.2.2.2)) = some (r1, r2, r3, r4, r5) := by first | (rw [hy186]; with_reducible exact H) | (have H2_ := (Option.bind_some _ _).symm.trans H; rw [hy186]; with_reducible exact H2_) | (have H2_ := (Option.bind_some _ _).symm.trans H; with_reducible exact H2_) | with_reducible exact H | (rw [hy186]; exact H) | exact H
         have Ny186 := uD hy186
         clear hy186
         replace H := Option.bind_eq_some_iff.mp H
         obtain ⟨⟨t189, t190, t191, t192⟩, A310, H⟩ := H
         replace H : (spec_Run.l0 k2 a1 y186 (wrap64 (x7_2 + 1)) t189 t190 t191 t192) = some (r1, r2, r3, r4, r5) := H
         have A31 := uD A310
         clear A310
         have H' := uD H
         clear H
         have hnb32 := NB164_165.out
         have hnc32 := NB165_164.out
         have hcz33_0 : wr.cell? ⟨gb164, 0, none⟩ = some (.int .i64 x165000_2) := (uF BK164.out 0).trans rfl
         have hcz33_1 : wr.cell? ⟨gb164, 1, none⟩ = some (.int .i64 x165001_2) := (uF BK164.out 1).trans rfl
         have hcz33_2 : wr.cell? ⟨gb164, 2, none⟩ = some (.bool x165002_2) := (uF BK164.out 2).trans rfl
         have hcz33_3 : wr.cell? ⟨gb164, 3, none⟩ = some (u165003) := (uF BK164.out 3).trans rfl
         have hfz33_0 := uI BK164.out 0
         have hfz33_1 := uI BK164.out 1
         have hfz33_2 := uI BK164.out 2
         have hfz33_3 := uI BK164.out 3
         obtain ⟨Ao34, co34, eo34⟩ := Kd.R_slice HO_165003.out
         subst eo34
         go_wp2_with (first | ((with_reducible refine gate_callee (f := 26) rfl ?_); refine goesL_ (some 31) rfl rfl Try.func26 (by kernel_rfl) rfl #[.agg #[.int .i64 x165000_2, .int .i64 x165001_2, .bool x165002_2, .slice Ao34 x165003_2.length co34]] rfl (by (try simp only [List.map_toArray, List.map_cons, List.map_nil]); first | done | rfl | (simp only [List.length_drop, List.length_take]; rfl)) ?_; (with_reducible refine (spec_Leave.calls k2 x165000_2 x165001_2 x165002_2 _ _ x165003_2 t177 t178 t179 t180 t183 true _ ?side1 ?side2 A28.out).mono ?_); (case side1 => repeat (first | exact (Kd.R_reads' HO_165003.out).2.2 | (with_reducible refine Kd.C_alloc ?_ _) | (with_reducible refine Kd.C_drewN ?_ _) | (with_reducible refine Kd.C_drew ?_))); (case side2 => exact (Kd.R_reads' HO_165003.out).2.1); rintro e w35 ⟨v181, rfl, ho0, hb⟩; refine ⟨_, rfl, ?_⟩; replace HO_6 := uD (Kd.R_below (by (with_reducible repeat (first | apply uU | apply uS | apply uT)); exact HO_6.out) hb); have HO182 := uD (Kd.R_lower (Kd.R_new' ho0 (Kd.R_lt (by (with_reducible repeat (first | apply uU | apply uS | apply uT)); exact HO_165003.out))) (uN (by repeat (first | (with_reducible first | exact HB.out | apply uL | apply uE | apply uK | refine uM ?_ GE164.out | refine uM ?_ GE165.out) | exact HB.out)))); replace HO_165003 := uD (Kd.R_elder' (by (with_reducible repeat (first | apply uU | apply uS | apply uT)); exact HO_165003.out) (Kd.R_base ho0) hb); replace BK164 := uD (blk_below (g := gb164) (o := .cells #[.int .i64 x165000_2, .int .i64 x165001_2, .bool x165002_2, .slice Ao34 x165003_2.length co34] 29 (0, 0)) (by (with_reducible repeat (first | refine uH ?_ _ | refine uJ ?_ | refine uG ?_ _)); exact BK164.out) hb); replace BK165 := uD (blk_below (g := gb165) (o := .cells #[.int .i64 0, .int .i64 0, .bool false, .slice none 0 0] 29 (0, 0)) (by (with_reducible repeat (first | refine uH ?_ _ | refine uJ ?_ | refine uG ?_ _)); exact BK165.out) hb); replace HB := uD (uO (by repeat (first | (with_reducible first | exact HB.out | apply uL | apply uE | apply uK | refine uM ?_ GE164.out | refine uM ?_ GE165.out) | exact HB.out)) hb); (try clear hb); (try clear hb2); (try clear hk); (try clear hi); (try clear ho0)) | ((with_reducible refine gate_dst (N := 8) rfl ?_); refine box_event ?hg (N := 8) ?hd (cs := #[.int .i64 0, .int .i64 0, .bool false, .slice none 0 0]) (t := 29) ?hr ?_; (case hd => rfl); (case hg => rfl); (case hr => first | (go_simp; done) | (go_simp; rfl)); intro gb185 hg w36 hbox hb; replace HO_6 := uD (Kd.R_below (by (with_reducible repeat (first | apply uU | apply uS | apply uT)); exact HO_6.out) hb); replace HO_165003 := uD (Kd.R_below (by (with_reducible repeat (first | apply uU | apply uS | apply uT)); exact HO_165003.out) hb); replace HO182 := uD (Kd.R_below (by (with_reducible repeat (first | apply uU | apply uS | apply uT)); exact HO182.out) hb); have BK185 := uD (hbox); have GW185 := uD ((by rw [hg]; exact (uN (by repeat (first | (with_reducible first | exact HB.out | apply uL | apply uE | apply uK | refine uM ?_ GE164.out | refine uM ?_ GE165.out) | exact HB.out))) : w.heap.size ≤ gb185)); have GE185 := uD ((by rw [hg]; exact (uN (by repeat (first | (with_reducible first | exact HB.out | apply uL | apply uE | apply uK | refine uM ?_ GE164.out | refine uM ?_ GE165.out) | exact HB.out))) : w.heap.size ≤ gb185)); replace HB := uD (uO (by repeat (first | (with_reducible first | exact HB.out | apply uL | apply uE | apply uK | refine uM ?_ GE164.out | refine uM ?_ GE165.out) | exact HB.out)) hb); have NB164_185 := uD ((by rw [hg]; exact Nat.ne_of_lt (blk_lt (g := gb164) (o := .cells #[.int .i64 x165000_2, .int .i64 x165001_2, .bool x165002_2, .slice Ao34 x165003_2.length co34] 29 (0, 0)) (by (with_reducible repeat (first | refine uH ?_ _ | refine uJ ?_ | refine uG ?_ _)); exact BK164.out)) : gb164 ≠ gb185)); have NB185_164 := uD ((by rw [hg]; exact Nat.ne_of_gt (blk_lt (g := gb164) (o := .cells #[.int .i64 x165000_2, .int .i64 x165001_2, .bool x165002_2, .slice Ao34 x165003_2.length co34] 29 (0, 0)) (by (with_reducible repeat (first | refine uH ?_ _ | refine uJ ?_ | refine uG ?_ _)); exact BK164.out)) : gb185 ≠ gb164)); replace BK164 := uD (blk_below (g := gb164) (o := .cells #[.int .i64 x165000_2, .int .i64 x165001_2, .bool x165002_2, .slice Ao34 x165003_2.length co34] 29 (0, 0)) (by (with_reducible repeat (first | refine uH ?_ _ | refine uJ ?_ | refine uG ?_ _)); exact BK164.out) hb); have NB165_185 := uD ((by rw [hg]; exact Nat.ne_of_lt (blk_lt (g := gb165) (o := .cells #[.int .i64 0, .int .i64 0, .bool false, .slice none 0 0] 29 (0, 0)) (by (with_reducible repeat (first | refine uH ?_ _ | refine uJ ?_ | refine uG ?_ _)); exact BK165.out)) : gb165 ≠ gb185)); have NB185_165 := uD ((by rw [hg]; exact Nat.ne_of_gt (blk_lt (g := gb165) (o := .cells #[.int .i64 0, .int .i64 0, .bool false, .slice none 0 0] 29 (0, 0)) (by (with_reducible repeat (first | refine uH ?_ _ | refine uJ ?_ | refine uG ?_ _)); exact BK165.out)) : gb185 ≠ gb165)); replace BK165 := uD (blk_below (g := gb165) (o := .cells #[.int .i64 0, .int .i64 0, .bool false, .slice none 0 0] 29 (0, 0)) (by (with_reducible repeat (first | refine uH ?_ _ | refine uJ ?_ | refine uG ?_ _)); exact BK165.out) hb); clear hb hbox hg; have hnb37 := NB185_164.out; have hnc37 := NB164_185.out; have hnb38 := NB185_165.out; have hnc38 := NB165_185.out; have hcz39_0 : w36.cell? ⟨gb185, 0, none⟩ = some (.int .i64 0) := (uF BK185.out 0).trans rfl; have hcz39_1 : w36.cell? ⟨gb185, 1, none⟩ = some (.int .i64 0) := (uF BK185.out 1).trans rfl; have hcz39_2 : w36.cell? ⟨gb185, 2, none⟩ = some (.bool false) := (uF BK185.out 2).trans rfl; have hcz39_3 : w36.cell? ⟨gb185, 3, none⟩ = some (.slice none 0 0) := (uF BK185.out 3).trans rfl; have hfz39_0 := uI BK185.out 0; have hfz39_1 := uI BK185.out 1; have hfz39_2 := uI BK185.out 2; have hfz39_3 := uI BK185.out 3; obtain ⟨Ao40, co40, eo40⟩ := Kd.R_slice HO182.out; subst eo40) | ((with_reducible refine gate_builtin (b := .append) (xs := #[.tmp 36, .tmp 40]) rfl ?_); at_builtin; refine Kd.R_append k56 (w0 := w) w.heap.size rfl (.tmp 36) (.tmp 40) 42 56 (.agg #[(.int .i64 0), (.int .i64 0)]) 16 rfl Try.underlying42 info56 rfl (by decide) (by omega) u6 x6_2 (⟨t183, x7_2⟩ : S56) [.int .i64 t183, .int .i64 x7_2] (fun _ => True) (fun _ => False) rfl (by first | (go_simp; done) | (go_simp; rfl)) ?aP (fun _ hk => hk.elim) ?aF ?aO ?aB ?aS ?aL ?_; (case aP => exact k56_mkM _ _ _ (⟨t183, x7_2⟩ : S56)); (case aB => exact (by repeat (first | (with_reducible first | exact HB.out | apply uL | apply uE | apply uK | refine uM ?_ GE164.out | refine uM ?_ GE165.out | refine uM ?_ GE185.out) | exact HB.out))); (case aF => exact (fun _ _ => trivial)); (case aO => exact (by (with_reducible repeat (first | apply uU | apply uS | apply uT)); exact uX (uV (p := ⟨gb185, 3, none⟩) (uV (p := ⟨gb185, 2, none⟩) (uV (p := ⟨gb185, 1, none⟩) (uV (p := ⟨gb185, 0, none⟩) (uW HO_6.out BK185.out (by decide)) (fun _ hk => hk.2) (.int .i64 t177)) (fun _ hk => hk.2) (.int .i64 t178)) (fun _ hk => hk.2) (.bool t179)) (fun _ hk => hk.2) (.slice Ao40 t180.length co40)) (fun _ hk => trivial))); (case aS => exact (uN (by repeat (first | (with_reducible first | exact HB.out | apply uL | apply uE | apply uK | refine uM ?_ GE164.out | refine uM ?_ GE165.out | refine uM ?_ GE185.out) | exact HB.out)))); (case aL => have := LMc30.out; omega); intro v187 w41 ho hb hg hat; rw [← Ny186.out] at ho; replace HO_165003 := uD (Kd.R_over' (by (with_reducible repeat (first | apply uU | apply uS | apply uT)); exact (uX (uV (p := ⟨gb185, 3, none⟩) (uV (p := ⟨gb185, 2, none⟩) (uV (p := ⟨gb185, 1, none⟩) (uV (p := ⟨gb185, 0, none⟩) (uW HO_165003.out BK185.out (by decide)) (fun _ hk => hk.2) (.int .i64 t177)) (fun _ hk => hk.2) (.int .i64 t178)) (fun _ hk => hk.2) (.bool t179)) (fun _ hk => hk.2) (.slice Ao40 t180.length co40)) (fun _ h_ => h_.1))) (Kd.R_typed (by (with_reducible repeat (first | apply uU | apply uS | apply uT)); exact (uX (uV (p := ⟨gb185, 3, none⟩) (uV (p := ⟨gb185, 2, none⟩) (uV (p := ⟨gb185, 1, none⟩) (uV (p := ⟨gb185, 0, none⟩) (uW HO_6.out BK185.out (by decide)) (fun _ hk => hk.2) (.int .i64 t177)) (fun _ hk => hk.2) (.int .i64 t178)) (fun _ hk => hk.2) (.bool t179)) (fun _ hk => hk.2) (.slice Ao40 t180.length co40)) (fun _ h_ => h_.1)))) (by decide) hg); replace BK164 := uD (blk_grown (g := gb164) (o := .cells #[.int .i64 x165000_2, .int .i64 x165001_2, .bool x165002_2, .slice Ao34 x165003_2.length co34] 29 (0, 0)) (by (with_reducible repeat (first | refine uH ?_ _ | refine uJ ?_ | refine uG ?_ _)); refine uQ ?_ NB164_185.out _; (with_reducible repeat (first | refine uH ?_ _ | refine uJ ?_ | refine uG ?_ _)); refine uQ ?_ NB164_185.out _; (with_reducible repeat (first | refine uH ?_ _ | refine uJ ?_ | refine uG ?_ _)); refine uQ ?_ NB164_185.out _; (with_reducible repeat (first | refine uH ?_ _ | refine uJ ?_ | refine uG ?_ _)); refine uQ ?_ NB164_185.out _; (with_reducible repeat (first | refine uH ?_ _ | refine uJ ?_ | refine uG ?_ _)); exact BK164.out) hg (Kd.R_ne HO_6.out BK164.out (by decide))); replace BK165 := uD (blk_grown (g := gb165) (o := .cells #[.int .i64 0, .int .i64 0, .bool false, .slice none 0 0] 29 (0, 0)) (by (with_reducible repeat (first | refine uH ?_ _ | refine uJ ?_ | refine uG ?_ _)); refine uQ ?_ NB165_185.out _; (with_reducible repeat (first | refine uH ?_ _ | refine uJ ?_ | refine uG ?_ _)); refine uQ ?_ NB165_185.out _; (with_reducible repeat (first | refine uH ?_ _ | refine uJ ?_ | refine uG ?_ _)); refine uQ ?_ NB165_185.out _; (with_reducible repeat (first | refine uH ?_ _ | refine uJ ?_ | refine uG ?_ _)); refine uQ ?_ NB165_185.out _; (with_reducible repeat (first | refine uH ?_ _ | refine uJ ?_ | refine uG ?_ _)); exact BK165.out) hg (Kd.R_ne HO_6.out BK165.out (by decide))); replace HO182 := uD (Kd.R_over' (by (with_reducible repeat (first | apply uU | apply uS | apply uT)); exact (uX (uV (p := ⟨gb185, 3, none⟩) (uV (p := ⟨gb185, 2, none⟩) (uV (p := ⟨gb185, 1, none⟩) (uV (p := ⟨gb185, 0, none⟩) (uW HO182.out BK185.out (by decide)) (fun _ hk => hk.2) (.int .i64 t177)) (fun _ hk => hk.2) (.int .i64 t178)) (fun _ hk => hk.2) (.bool t179)) (fun _ hk => hk.2) (.slice Ao40 t180.length co40)) (fun _ h_ => h_.1))) (Kd.R_typed (by (with_reducible repeat (first | apply uU | apply uS | apply uT)); exact (uX (uV (p := ⟨gb185, 3, none⟩) (uV (p := ⟨gb185, 2, none⟩) (uV (p := ⟨gb185, 1, none⟩) (uV (p := ⟨gb185, 0, none⟩) (uW HO_6.out BK185.out (by decide)) (fun _ hk => hk.2) (.int .i64 t177)) (fun _ hk => hk.2) (.int .i64 t178)) (fun _ hk => hk.2) (.bool t179)) (fun _ hk => hk.2) (.slice Ao40 t180.length co40)) (fun _ h_ => h_.1)))) (by decide) hg); replace BK185 := uD (blk_grown (g := gb185) (o := .cells #[.int .i64 t177, .int .i64 t178, .bool t179, .slice Ao40 t180.length co40] 29 (0, 0)) (by (with_reducible repeat (first | refine uH ?_ _ | refine uJ ?_ | refine uG ?_ _)); refine uP (cs := #[.int .i64 t177, .int .i64 t178, .bool t179, .slice none 0 0]) ?_ 3 _ rfl; (with_reducible repeat (first | refine uH ?_ _ | refine uJ ?_ | refine uG ?_ _)); refine uP (cs := #[.int .i64 t177, .int .i64 t178, .bool false, .slice none 0 0]) ?_ 2 _ rfl; (with_reducible repeat (first | refine uH ?_ _ | refine uJ ?_ | refine uG ?_ _)); refine uP (cs := #[.int .i64 t177, .int .i64 0, .bool false, .slice none 0 0]) ?_ 1 _ rfl; (with_reducible repeat (first | refine uH ?_ _ | refine uJ ?_ | refine uG ?_ _)); refine uP (cs := #[.int .i64 0, .int .i64 0, .bool false, .slice none 0 0]) ?_ 0 _ rfl; (with_reducible repeat (first | refine uH ?_ _ | refine uJ ?_ | refine uG ?_ _)); exact BK185.out) hg (Kd.R_ne HO_6.out BK185.out (by decide))); replace HB := uD (hb); have HO188 := uD (ho); clear HO_6; clear ho hb hg hat; have hcz42_0 : w41.cell? ⟨gb185, 0, none⟩ = some (.int .i64 t177) := (uF BK185.out 0).trans rfl; have hcz42_1 : w41.cell? ⟨gb185, 1, none⟩ = some (.int .i64 t178) := (uF BK185.out 1).trans rfl; have hcz42_2 : w41.cell? ⟨gb185, 2, none⟩ = some (.bool t179) := (uF BK185.out 2).trans rfl; have hcz42_3 : w41.cell? ⟨gb185, 3, none⟩ = some (.slice Ao40 t180.length co40) := (uF BK185.out 3).trans rfl; have hfz42_0 := uI BK185.out 0; have hfz42_1 := uI BK185.out 1; have hfz42_2 := uI BK185.out 2; have hfz42_3 := uI BK185.out 3) | ((with_reducible refine gate_callee (f := 52) rfl ?_); refine goesL_ (some 43) rfl rfl Try.func52 (by kernel_rfl) rfl #[.agg #[.int .i64 t177, .int .i64 t178, .bool t179, .slice Ao40 t180.length co40]] rfl (by (try simp only [List.map_toArray, List.map_cons, List.map_nil]); first | done | rfl | (simp only [List.length_drop, List.length_take]; rfl)) ?_; (with_reducible refine (spec_l02Step.calls k2 t177 t178 t179 _ _ t180 t189 t190 t191 t192 _ ?side1 ?side2 A31.out).mono ?_); (case side1 => repeat (first | exact (Kd.R_reads' HO182.out).2.2 | (with_reducible refine Kd.C_alloc ?_ _) | (with_reducible refine Kd.C_drewN ?_ _) | (with_reducible refine Kd.C_drew ?_))); (case side2 => exact (Kd.R_reads' HO182.out).2.1); rintro e w43 ⟨v193, rfl, ho0, hb⟩; refine ⟨_, rfl, ?_⟩; replace HO188 := uD (Kd.R_below (by (with_reducible repeat (first | apply uU | apply uS | apply uT)); exact HO188.out) hb); have HO194 := uD (Kd.R_lower (Kd.R_new' (Kd.R_new' ho0 (Kd.R_lt (by (with_reducible repeat (first | apply uU | apply uS | apply uT)); exact HO_165003.out))) (Kd.R_lt (by (with_reducible repeat (first | apply uU | apply uS | apply uT)); exact HO182.out))) (uN (by repeat (first | (with_reducible first | exact HB.out | apply uL | apply uE | apply uK | refine uM ?_ GE164.out | refine uM ?_ GE165.out | refine uM ?_ GE185.out) | exact HB.out)))); replace HO_165003 := uD (Kd.R_elder' (by (with_reducible repeat (first | apply uU | apply uS | apply uT)); exact HO_165003.out) (Kd.R_base ho0) hb); replace HO182 := uD (Kd.R_elder' (by (with_reducible repeat (first | apply uU | apply uS | apply uT)); exact HO182.out) (Kd.R_base ho0) hb); replace BK164 := uD (blk_below (g := gb164) (o := .cells #[.int .i64 x165000_2, .int .i64 x165001_2, .bool x165002_2, .slice Ao34 x165003_2.length co34] 29 (0, 0)) (by (with_reducible repeat (first | refine uH ?_ _ | refine uJ ?_ | refine uG ?_ _)); exact BK164.out) hb); replace BK165 := uD (blk_below (g := gb165) (o := .cells #[.int .i64 0, .int .i64 0, .bool false, .slice none 0 0] 29 (0, 0)) (by (with_reducible repeat (first | refine uH ?_ _ | refine uJ ?_ | refine uG ?_ _)); exact BK165.out) hb); replace BK185 := uD (blk_below (g := gb185) (o := .cells #[.int .i64 t177, .int .i64 t178, .bool t179, .slice Ao40 t180.length co40] 29 (0, 0)) (by (with_reducible repeat (first | refine uH ?_ _ | refine uJ ?_ | refine uG ?_ _)); exact BK185.out) hb); replace HB := uD (uO (by repeat (first | (with_reducible first | exact HB.out | apply uL | apply uE | apply uK | refine uM ?_ GE164.out | refine uM ?_ GE165.out | refine uM ?_ GE185.out) | exact HB.out)) hb); (try clear hb); (try clear hb2); (try clear hk); (try clear hi); (try clear ho0); have hcz44_0 : w43.cell? ⟨gb164, 0, none⟩ = some (.int .i64 x165000_2) := (uF BK164.out 0).trans rfl; have hcz44_1 : w43.cell? ⟨gb164, 1, none⟩ = some (.int .i64 x165001_2) := (uF BK164.out 1).trans rfl; have hcz44_2 : w43.cell? ⟨gb164, 2, none⟩ = some (.bool x165002_2) := (uF BK164.out 2).trans rfl; have hcz44_3 : w43.cell? ⟨gb164, 3, none⟩ = some (.slice Ao34 x165003_2.length co34) := (uF BK164.out 3).trans rfl; have hfz44_0 := uI BK164.out 0; have hfz44_1 := uI BK164.out 1; have hfz44_2 := uI BK164.out 2; have hfz44_3 := uI BK164.out 3; obtain ⟨Ao45, co45, eo45⟩ := Kd.R_slice HO194.out; subst eo45))
         go_roundg k2
         case measure => have := HJ3.out; have := HK2.out; omega
         case rel => exact ⟨(y186), (wrap64 (x7_2 + 1)), (t189), (t190), (t191), (t192), (.slice Ao45 t192.length co45), (by first | rfl | (simp; done) | (simp [*]; done)), H', ⟨by have := HJ3.out; have := HK2.out; omega⟩, ⟨by (with_reducible repeat (first | apply uU | apply uS | apply uT)); exact uX (uV (p := ⟨gb164, 3, none⟩) (uV (p := ⟨gb164, 2, none⟩) (uV (p := ⟨gb164, 1, none⟩) (uV (p := ⟨gb164, 0, none⟩) (uW HO188.out BK164.out (by decide)) (fun _ hk => hk.2) (.int .i64 t189)) (fun _ hk => hk.2) (.int .i64 t190)) (fun _ hk => hk.2) (.bool t191)) (fun _ hk => hk.2) (.slice Ao45 t192.length co45)) (fun _ hk => trivial)⟩, ⟨by (with_reducible repeat (first | apply uU | apply uS | apply uT)); exact uX (uV (p := ⟨gb164, 3, none⟩) (uV (p := ⟨gb164, 2, none⟩) (uV (p := ⟨gb164, 1, none⟩) (uV (p := ⟨gb164, 0, none⟩) (uW HO194.out BK164.out (by decide)) (fun _ hk => hk.2) (.int .i64 t189)) (fun _ hk => hk.2) (.int .i64 t190)) (fun _ hk => hk.2) (.bool t191)) (fun _ hk => hk.2) (.slice Ao45 t192.length co45)) (fun _ hk => trivial)⟩, ⟨by (with_reducible repeat (first | refine uH ?_ _ | refine uJ ?_ | refine uG ?_ _)); refine uP (cs := #[.int .i64 t189, .int .i64 t190, .bool t191, .slice Ao34 x165003_2.length co34]) ?_ 3 _ rfl; (with_reducible repeat (first | refine uH ?_ _ | refine uJ ?_ | refine uG ?_ _)); refine uP (cs := #[.int .i64 t189, .int .i64 t190, .bool x165002_2, .slice Ao34 x165003_2.length co34]) ?_ 2 _ rfl; (with_reducible repeat (first | refine uH ?_ _ | refine uJ ?_ | refine uG ?_ _)); refine uP (cs := #[.int .i64 t189, .int .i64 x165001_2, .bool x165002_2, .slice Ao34 x165003_2.length co34]) ?_ 1 _ rfl; (with_reducible repeat (first | refine uH ?_ _ | refine uJ ?_ | refine uG ?_ _)); refine uP (cs := #[.int .i64 x165000_2, .int .i64 x165001_2, .bool x165002_2, .slice Ao34 x165003_2.length co34]) ?_ 0 _ rfl; (with_reducible repeat (first | refine uH ?_ _ | refine uJ ?_ | refine uG ?_ _)); exact BK164.out⟩, ⟨by (with_reducible repeat (first | refine uH ?_ _ | refine uJ ?_ | refine uG ?_ _)); refine uQ ?_ NB165_164.out _; (with_reducible repeat (first | refine uH ?_ _ | refine uJ ?_ | refine uG ?_ _)); refine uQ ?_ NB165_164.out _; (with_reducible repeat (first | refine uH ?_ _ | refine uJ ?_ | refine uG ?_ _)); refine uQ ?_ NB165_164.out _; (with_reducible repeat (first | refine uH ?_ _ | refine uJ ?_ | refine uG ?_ _)); refine uQ ?_ NB165_164.out _; (with_reducible repeat (first | refine uH ?_ _ | refine uJ ?_ | refine uG ?_ _)); exact BK165.out⟩, ⟨by repeat (first | (with_reducible first | exact HB.out | apply uL | apply uE | apply uK | refine uM ?_ GE164.out | refine uM ?_ GE165.out | refine uM ?_ GE185.out) | exact HB.out)⟩⟩
        ·rw [if_neg c30] at H
         exact absurd H (by simp)
       ·replace c29 := Bool.eq_false_iff.mpr c29
        subst c29
        have H1 : ((spec_l02Step.f k2 t177 t178 t179 t180).bind fun bt195 => (spec_Run.l0 k2 a1 x6_2 (wrap64 (x7_2 + 1)) bt195.1 bt195.2.1 bt195.2.2.1 bt195.2.2.2)) = some (r1, r2, r3, r4, r5) := by rw [if_neg (show ¬ (false = true) by decide)] at H; first | done | exact H
        clear H
        have H := H1
        clear H1
        replace H := Option.bind_eq_some_iff.mp H
        obtain ⟨⟨t195, t196, t197, t198⟩, A460, H⟩ := H
        replace H : (spec_Run.l0 k2 a1 x6_2 (wrap64 (x7_2 + 1)) t195 t196 t197 t198) = some (r1, r2, r3, r4, r5) := H
        have A46 := uD A460
        clear A460
        have H' := uD H
        clear H
        have hnb47 := NB164_165.out
        have hnc47 := NB165_164.out
        have hcz48_0 : wr.cell? ⟨gb164, 0, none⟩ = some (.int .i64 x165000_2) := (uF BK164.out 0).trans rfl
        have hcz48_1 : wr.cell? ⟨gb164, 1, none⟩ = some (.int .i64 x165001_2) := (uF BK164.out 1).trans rfl
        have hcz48_2 : wr.cell? ⟨gb164, 2, none⟩ = some (.bool x165002_2) := (uF BK164.out 2).trans rfl
        have hcz48_3 : wr.cell? ⟨gb164, 3, none⟩ = some (u165003) := (uF BK164.out 3).trans rfl
        have hfz48_0 := uI BK164.out 0
        have hfz48_1 := uI BK164.out 1
        have hfz48_2 := uI BK164.out 2
        have hfz48_3 := uI BK164.out 3
        obtain ⟨Ao49, co49, eo49⟩ := Kd.R_slice HO_165003.out
        subst eo49
        go_wp2_with (first | ((with_reducible refine gate_callee (f := 26) rfl ?_); refine goesL_ (some 31) rfl rfl Try.func26 (by kernel_rfl) rfl #[.agg #[.int .i64 x165000_2, .int .i64 x165001_2, .bool x165002_2, .slice Ao49 x165003_2.length co49]] rfl (by (try simp only [List.map_toArray, List.map_cons, List.map_nil]); first | done | rfl | (simp only [List.length_drop, List.length_take]; rfl)) ?_; (with_reducible refine (spec_Leave.calls k2 x165000_2 x165001_2 x165002_2 _ _ x165003_2 t177 t178 t179 t180 t183 false _ ?side1 ?side2 A28.out).mono ?_); (case side1 => repeat (first | exact (Kd.R_reads' HO_165003.out).2.2 | (with_reducible refine Kd.C_alloc ?_ _) | (with_reducible refine Kd.C_drewN ?_ _) | (with_reducible refine Kd.C_drew ?_))); (case side2 => exact (Kd.R_reads' HO_165003.out).2.1); rintro e w50 ⟨v181, rfl, ho0, hb⟩; refine ⟨_, rfl, ?_⟩; replace HO_6 := uD (Kd.R_below (by (with_reducible repeat (first | apply uU | apply uS | apply uT)); exact HO_6.out) hb); have HO182 := uD (Kd.R_lower (Kd.R_new' ho0 (Kd.R_lt (by (with_reducible repeat (first | apply uU | apply uS | apply uT)); exact HO_165003.out))) (uN (by repeat (first | (with_reducible first | exact HB.out | apply uL | apply uE | apply uK | refine uM ?_ GE164.out | refine uM ?_ GE165.out) | exact HB.out)))); replace HO_165003 := uD (Kd.R_elder' (by (with_reducible repeat (first | apply uU | apply uS | apply uT)); exact HO_165003.out) (Kd.R_base ho0) hb); replace BK164 := uD (blk_below (g := gb164) (o := .cells #[.int .i64 x165000_2, .int .i64 x165001_2, .bool x165002_2, .slice Ao49 x165003_2.length co49] 29 (0, 0)) (by (with_reducible repeat (first | refine uH ?_ _ | refine uJ ?_ | refine uG ?_ _)); exact BK164.out) hb); replace BK165 := uD (blk_below (g := gb165) (o := .cells #[.int .i64 0, .int .i64 0, .bool false, .slice none 0 0] 29 (0, 0)) (by (with_reducible repeat (first | refine uH ?_ _ | refine uJ ?_ | refine uG ?_ _)); exact BK165.out) hb); replace HB := uD (uO (by repeat (first | (with_reducible first | exact HB.out | apply uL | apply uE | apply uK | refine uM ?_ GE164.out | refine uM ?_ GE165.out) | exact HB.out)) hb); (try clear hb); (try clear hb2); (try clear hk); (try clear hi); (try clear ho0)) | ((with_reducible refine gate_dst (N := 8) rfl ?_); refine box_event ?hg (N := 8) ?hd (cs := #[.int .i64 0, .int .i64 0, .bool false, .slice none 0 0]) (t := 29) ?hr ?_; (case hd => rfl); (case hg => rfl); (case hr => first | (go_simp; done) | (go_simp; rfl)); intro gb185 hg w51 hbox hb; replace HO_6 := uD (Kd.R_below (by (with_reducible repeat (first | apply uU | apply uS | apply uT)); exact HO_6.out) hb); replace HO_165003 := uD (Kd.R_below (by (with_reducible repeat (first | apply uU | apply uS | apply uT)); exact HO_165003.out) hb); replace HO182 := uD (Kd.R_below (by (with_reducible repeat (first | apply uU | apply uS | apply uT)); exact HO182.out) hb); have BK185 := uD (hbox); have GW185 := uD ((by rw [hg]; exact (uN (by repeat (first | (with_reducible first | exact HB.out | apply uL | apply uE | apply uK | refine uM ?_ GE164.out | refine uM ?_ GE165.out) | exact HB.out))) : w.heap.size ≤ gb185)); have GE185 := uD ((by rw [hg]; exact (uN (by repeat (first | (with_reducible first | exact HB.out | apply uL | apply uE | apply uK | refine uM ?_ GE164.out | refine uM ?_ GE165.out) | exact HB.out))) : w.heap.size ≤ gb185)); replace HB := uD (uO (by repeat (first | (with_reducible first | exact HB.out | apply uL | apply uE | apply uK | refine uM ?_ GE164.out | refine uM ?_ GE165.out) | exact HB.out)) hb); have NB164_185 := uD ((by rw [hg]; exact Nat.ne_of_lt (blk_lt (g := gb164) (o := .cells #[.int .i64 x165000_2, .int .i64 x165001_2, .bool x165002_2, .slice Ao49 x165003_2.length co49] 29 (0, 0)) (by (with_reducible repeat (first | refine uH ?_ _ | refine uJ ?_ | refine uG ?_ _)); exact BK164.out)) : gb164 ≠ gb185)); have NB185_164 := uD ((by rw [hg]; exact Nat.ne_of_gt (blk_lt (g := gb164) (o := .cells #[.int .i64 x165000_2, .int .i64 x165001_2, .bool x165002_2, .slice Ao49 x165003_2.length co49] 29 (0, 0)) (by (with_reducible repeat (first | refine uH ?_ _ | refine uJ ?_ | refine uG ?_ _)); exact BK164.out)) : gb185 ≠ gb164)); replace BK164 := uD (blk_below (g := gb164) (o := .cells #[.int .i64 x165000_2, .int .i64 x165001_2, .bool x165002_2, .slice Ao49 x165003_2.length co49] 29 (0, 0)) (by (with_reducible repeat (first | refine uH ?_ _ | refine uJ ?_ | refine uG ?_ _)); exact BK164.out) hb); have NB165_185 := uD ((by rw [hg]; exact Nat.ne_of_lt (blk_lt (g := gb165) (o := .cells #[.int .i64 0, .int .i64 0, .bool false, .slice none 0 0] 29 (0, 0)) (by (with_reducible repeat (first | refine uH ?_ _ | refine uJ ?_ | refine uG ?_ _)); exact BK165.out)) : gb165 ≠ gb185)); have NB185_165 := uD ((by rw [hg]; exact Nat.ne_of_gt (blk_lt (g := gb165) (o := .cells #[.int .i64 0, .int .i64 0, .bool false, .slice none 0 0] 29 (0, 0)) (by (with_reducible repeat (first | refine uH ?_ _ | refine uJ ?_ | refine uG ?_ _)); exact BK165.out)) : gb185 ≠ gb165)); replace BK165 := uD (blk_below (g := gb165) (o := .cells #[.int .i64 0, .int .i64 0, .bool false, .slice none 0 0] 29 (0, 0)) (by (with_reducible repeat (first | refine uH ?_ _ | refine uJ ?_ | refine uG ?_ _)); exact BK165.out) hb); clear hb hbox hg; have hnb52 := NB185_164.out; have hnc52 := NB164_185.out; have hnb53 := NB185_165.out; have hnc53 := NB165_185.out; have hcz54_0 : w51.cell? ⟨gb185, 0, none⟩ = some (.int .i64 0) := (uF BK185.out 0).trans rfl; have hcz54_1 : w51.cell? ⟨gb185, 1, none⟩ = some (.int .i64 0) := (uF BK185.out 1).trans rfl; have hcz54_2 : w51.cell? ⟨gb185, 2, none⟩ = some (.bool false) := (uF BK185.out 2).trans rfl; have hcz54_3 : w51.cell? ⟨gb185, 3, none⟩ = some (.slice none 0 0) := (uF BK185.out 3).trans rfl; have hfz54_0 := uI BK185.out 0; have hfz54_1 := uI BK185.out 1; have hfz54_2 := uI BK185.out 2; have hfz54_3 := uI BK185.out 3; obtain ⟨Ao55, co55, eo55⟩ := Kd.R_slice HO182.out; subst eo55) | ((with_reducible refine gate_callee (f := 52) rfl ?_); refine goesL_ (some 43) rfl rfl Try.func52 (by kernel_rfl) rfl #[.agg #[.int .i64 t177, .int .i64 t178, .bool t179, .slice Ao55 t180.length co55]] rfl (by (try simp only [List.map_toArray, List.map_cons, List.map_nil]); first | done | rfl | (simp only [List.length_drop, List.length_take]; rfl)) ?_; (with_reducible refine (spec_l02Step.calls k2 t177 t178 t179 _ _ t180 t195 t196 t197 t198 _ ?side1 ?side2 A46.out).mono ?_); (case side1 => refine (Kd.R_reads' (e := 53) (base := w.heap.size) (ok := fun k_ => (True ∧ some k_ ≠ (.slice Ao49 x165003_2.length co49 : Value).ownBlock)) (n := t180.length) (c := co55) ?_).2.2; exact (by (with_reducible repeat (first | apply uU | apply uS | apply uT)); exact (uX (uV (p := ⟨gb185, 3, none⟩) (uV (p := ⟨gb185, 2, none⟩) (uV (p := ⟨gb185, 1, none⟩) (uV (p := ⟨gb185, 0, none⟩) (uW HO182.out BK185.out (by decide)) (fun _ hk => hk.2) (.int .i64 t177)) (fun _ hk => hk.2) (.int .i64 t178)) (fun _ hk => hk.2) (.bool t179)) (fun _ hk => hk.2) (.slice Ao55 t180.length co55)) (fun _ h_ => h_.1)))); (case side2 => exact (Kd.R_reads' HO182.out).2.1); rintro e w56 ⟨v199, rfl, ho0, hb⟩; refine ⟨_, rfl, ?_⟩; replace HO_6 := uD (Kd.R_below (by (with_reducible repeat (first | apply uU | apply uS | apply uT)); exact (uX (uV (p := ⟨gb185, 3, none⟩) (uV (p := ⟨gb185, 2, none⟩) (uV (p := ⟨gb185, 1, none⟩) (uV (p := ⟨gb185, 0, none⟩) (uW HO_6.out BK185.out (by decide)) (fun _ hk => hk.2) (.int .i64 t177)) (fun _ hk => hk.2) (.int .i64 t178)) (fun _ hk => hk.2) (.bool t179)) (fun _ hk => hk.2) (.slice Ao55 t180.length co55)) (fun _ h_ => h_.1))) hb); have HO200 := uD (Kd.R_lower (Kd.R_new' (Kd.R_new' ho0 (Kd.R_lt (by (with_reducible repeat (first | apply uU | apply uS | apply uT)); exact (uX (uV (p := ⟨gb185, 3, none⟩) (uV (p := ⟨gb185, 2, none⟩) (uV (p := ⟨gb185, 1, none⟩) (uV (p := ⟨gb185, 0, none⟩) (uW HO_165003.out BK185.out (by decide)) (fun _ hk => hk.2) (.int .i64 t177)) (fun _ hk => hk.2) (.int .i64 t178)) (fun _ hk => hk.2) (.bool t179)) (fun _ hk => hk.2) (.slice Ao55 t180.length co55)) (fun _ h_ => h_.1))))) (Kd.R_lt (by (with_reducible repeat (first | apply uU | apply uS | apply uT)); exact (uX (uV (p := ⟨gb185, 3, none⟩) (uV (p := ⟨gb185, 2, none⟩) (uV (p := ⟨gb185, 1, none⟩) (uV (p := ⟨gb185, 0, none⟩) (uW HO182.out BK185.out (by decide)) (fun _ hk => hk.2) (.int .i64 t177)) (fun _ hk => hk.2) (.int .i64 t178)) (fun _ hk => hk.2) (.bool t179)) (fun _ hk => hk.2) (.slice Ao55 t180.length co55)) (fun _ h_ => h_.1))))) (uN (by repeat (first | (with_reducible first | exact HB.out | apply uL | apply uE | apply uK | refine uM ?_ GE164.out | refine uM ?_ GE165.out | refine uM ?_ GE185.out) | exact HB.out)))); replace HO_165003 := uD (Kd.R_elder' (by (with_reducible repeat (first | apply uU | apply uS | apply uT)); exact (uX (uV (p := ⟨gb185, 3, none⟩) (uV (p := ⟨gb185, 2, none⟩) (uV (p := ⟨gb185, 1, none⟩) (uV (p := ⟨gb185, 0, none⟩) (uW HO_165003.out BK185.out (by decide)) (fun _ hk => hk.2) (.int .i64 t177)) (fun _ hk => hk.2) (.int .i64 t178)) (fun _ hk => hk.2) (.bool t179)) (fun _ hk => hk.2) (.slice Ao55 t180.length co55)) (fun _ h_ => h_.1))) (Kd.R_base ho0) hb); replace HO182 := uD (Kd.R_elder' (by (with_reducible repeat (first | apply uU | apply uS | apply uT)); exact (uX (uV (p := ⟨gb185, 3, none⟩) (uV (p := ⟨gb185, 2, none⟩) (uV (p := ⟨gb185, 1, none⟩) (uV (p := ⟨gb185, 0, none⟩) (uW HO182.out BK185.out (by decide)) (fun _ hk => hk.2) (.int .i64 t177)) (fun _ hk => hk.2) (.int .i64 t178)) (fun _ hk => hk.2) (.bool t179)) (fun _ hk => hk.2) (.slice Ao55 t180.length co55)) (fun _ h_ => h_.1))) (Kd.R_base ho0) hb); replace BK164 := uD (blk_below (g := gb164) (o := .cells #[.int .i64 x165000_2, .int .i64 x165001_2, .bool x165002_2, .slice Ao49 x165003_2.length co49] 29 (0, 0)) (by (with_reducible repeat (first | refine uH ?_ _ | refine uJ ?_ | refine uG ?_ _)); refine uQ ?_ NB164_185.out _; (with_reducible repeat (first | refine uH ?_ _ | refine uJ ?_ | refine uG ?_ _)); refine uQ ?_ NB164_185.out _; (with_reducible repeat (first | refine uH ?_ _ | refine uJ ?_ | refine uG ?_ _)); refine uQ ?_ NB164_185.out _; (with_reducible repeat (first | refine uH ?_ _ | refine uJ ?_ | refine uG ?_ _)); refine uQ ?_ NB164_185.out _; (with_reducible repeat (first | refine uH ?_ _ | refine uJ ?_ | refine uG ?_ _)); exact BK164.out) hb); replace BK165 := uD (blk_below (g := gb165) (o := .cells #[.int .i64 0, .int .i64 0, .bool false, .slice none 0 0] 29 (0, 0)) (by (with_reducible repeat (first | refine uH ?_ _ | refine uJ ?_ | refine uG ?_ _)); refine uQ ?_ NB165_185.out _; (with_reducible repeat (first | refine uH ?_ _ | refine uJ ?_ | refine uG ?_ _)); refine uQ ?_ NB165_185.out _; (with_reducible repeat (first | refine uH ?_ _ | refine uJ ?_ | refine uG ?_ _)); refine uQ ?_ NB165_185.out _; (with_reducible repeat (first | refine uH ?_ _ | refine uJ ?_ | refine uG ?_ _)); refine uQ ?_ NB165_185.out _; (with_reducible repeat (first | refine uH ?_ _ | refine uJ ?_ | refine uG ?_ _)); exact BK165.out) hb); replace BK185 := uD (blk_below (g := gb185) (o := .cells #[.int .i64 t177, .int .i64 t178, .bool t179, .slice Ao55 t180.length co55] 29 (0, 0)) (by (with_reducible repeat (first | refine uH ?_ _ | refine uJ ?_ | refine uG ?_ _)); refine uP (cs := #[.int .i64 t177, .int .i64 t178, .bool t179, .slice none 0 0]) ?_ 3 _ rfl; (with_reducible repeat (first | refine uH ?_ _ | refine uJ ?_ | refine uG ?_ _)); refine uP (cs := #[.int .i64 t177, .int .i64 t178, .bool false, .slice none 0 0]) ?_ 2 _ rfl; (with_reducible repeat (first | refine uH ?_ _ | refine uJ ?_ | refine uG ?_ _)); refine uP (cs := #[.int .i64 t177, .int .i64 0, .bool false, .slice none 0 0]) ?_ 1 _ rfl; (with_reducible repeat (first | refine uH ?_ _ | refine uJ ?_ | refine uG ?_ _)); refine uP (cs := #[.int .i64 0, .int .i64 0, .bool false, .slice none 0 0]) ?_ 0 _ rfl; (with_reducible repeat (first | refine uH ?_ _ | refine uJ ?_ | refine uG ?_ _)); exact BK185.out) hb); replace HB := uD (uO (by repeat (first | (with_reducible first | exact HB.out | apply uL | apply uE | apply uK | refine uM ?_ GE164.out | refine uM ?_ GE165.out | refine uM ?_ GE185.out) | exact HB.out)) hb); (try clear hb); (try clear hb2); (try clear hk); (try clear hi); (try clear ho0); have hcz57_0 : w56.cell? ⟨gb164, 0, none⟩ = some (.int .i64 x165000_2) := (uF BK164.out 0).trans rfl; have hcz57_1 : w56.cell? ⟨gb164, 1, none⟩ = some (.int .i64 x165001_2) := (uF BK164.out 1).trans rfl; have hcz57_2 : w56.cell? ⟨gb164, 2, none⟩ = some (.bool x165002_2) := (uF BK164.out 2).trans rfl; have hcz57_3 : w56.cell? ⟨gb164, 3, none⟩ = some (.slice Ao49 x165003_2.length co49) := (uF BK164.out 3).trans rfl; have hfz57_0 := uI BK164.out 0; have hfz57_1 := uI BK164.out 1; have hfz57_2 := uI BK164.out 2; have hfz57_3 := uI BK164.out 3; obtain ⟨Ao58, co58, eo58⟩ := Kd.R_slice HO200.out; subst eo58))
        go_roundg k2
        case measure => have := HJ3.out; have := HK2.out; omega
        case rel => exact ⟨(x6_2), (wrap64 (x7_2 + 1)), (t195), (t196), (t197), (t198), (.slice Ao58 t198.length co58), (by first | rfl | (simp; done) | (simp [*]; done)), H', ⟨by have := HJ3.out; have := HK2.out; omega⟩, ⟨by (with_reducible repeat (first | apply uU | apply uS | apply uT)); exact uX (uV (p := ⟨gb164, 3, none⟩) (uV (p := ⟨gb164, 2, none⟩) (uV (p := ⟨gb164, 1, none⟩) (uV (p := ⟨gb164, 0, none⟩) (uW HO_6.out BK164.out (by decide)) (fun _ hk => hk.2) (.int .i64 t195)) (fun _ hk => hk.2) (.int .i64 t196)) (fun _ hk => hk.2) (.bool t197)) (fun _ hk => hk.2) (.slice Ao58 t198.length co58)) (fun _ hk => trivial)⟩, ⟨by (with_reducible repeat (first | apply uU | apply uS | apply uT)); exact uX (uV (p := ⟨gb164, 3, none⟩) (uV (p := ⟨gb164, 2, none⟩) (uV (p := ⟨gb164, 1, none⟩) (uV (p := ⟨gb164, 0, none⟩) (uW HO200.out BK164.out (by decide)) (fun _ hk => hk.2) (.int .i64 t195)) (fun _ hk => hk.2) (.int .i64 t196)) (fun _ hk => hk.2) (.bool t197)) (fun _ hk => hk.2) (.slice Ao58 t198.length co58)) (fun _ hk => trivial)⟩, ⟨by (with_reducible repeat (first | refine uH ?_ _ | refine uJ ?_ | refine uG ?_ _)); refine uP (cs := #[.int .i64 t195, .int .i64 t196, .bool t197, .slice Ao49 x165003_2.length co49]) ?_ 3 _ rfl; (with_reducible repeat (first | refine uH ?_ _ | refine uJ ?_ | refine uG ?_ _)); refine uP (cs := #[.int .i64 t195, .int .i64 t196, .bool x165002_2, .slice Ao49 x165003_2.length co49]) ?_ 2 _ rfl; (with_reducible repeat (first | refine uH ?_ _ | refine uJ ?_ | refine uG ?_ _)); refine uP (cs := #[.int .i64 t195, .int .i64 x165001_2, .bool x165002_2, .slice Ao49 x165003_2.length co49]) ?_ 1 _ rfl; (with_reducible repeat (first | refine uH ?_ _ | refine uJ ?_ | refine uG ?_ _)); refine uP (cs := #[.int .i64 x165000_2, .int .i64 x165001_2, .bool x165002_2, .slice Ao49 x165003_2.length co49]) ?_ 0 _ rfl; (with_reducible repeat (first | refine uH ?_ _ | refine uJ ?_ | refine uG ?_ _)); exact BK164.out⟩, ⟨by (with_reducible repeat (first | refine uH ?_ _ | refine uJ ?_ | refine uG ?_ _)); refine uQ ?_ NB165_164.out _; (with_reducible repeat (first | refine uH ?_ _ | refine uJ ?_ | refine uG ?_ _)); refine uQ ?_ NB165_164.out _; (with_reducible repeat (first | refine uH ?_ _ | refine uJ ?_ | refine uG ?_ _)); refine uQ ?_ NB165_164.out _; (with_reducible repeat (first | refine uH ?_ _ | refine uJ ?_ | refine uG ?_ _)); refine uQ ?_ NB165_164.out _; (with_reducible repeat (first | refine uH ?_ _ | refine uJ ?_ | refine uG ?_ _)); exact BK165.out⟩, ⟨by repeat (first | (with_reducible first | exact HB.out | apply uL | apply uE | apply uK | refine uM ?_ GE164.out | refine uM ?_ GE165.out | refine uM ?_ GE185.out) | exact HB.out)⟩⟩
      ·rw [if_neg c27] at H
       have c27b0 : decide (x7_2 < a1) = false := decide_eq_false c27
       clear c27
       simp only [Option.some.injEq, Prod.mk.injEq] at H
       obtain ⟨rfl, rfl, rfl, rfl, rfl⟩ := H
       have hnb59 := NB164_165.out
       have hnc59 := NB165_164.out
       have hcz60_0 : wr.cell? ⟨gb164, 0, none⟩ = some (.int .i64 x165000_2) := (uF BK164.out 0).trans rfl
       have hcz60_1 : wr.cell? ⟨gb164, 1, none⟩ = some (.int .i64 x165001_2) := (uF BK164.out 1).trans rfl
       have hcz60_2 : wr.cell? ⟨gb164, 2, none⟩ = some (.bool x165002_2) := (uF BK164.out 2).trans rfl
       have hcz60_3 : wr.cell? ⟨gb164, 3, none⟩ = some (u165003) := (uF BK164.out 3).trans rfl
       have hfz60_0 := uI BK164.out 0
       have hfz60_1 := uI BK164.out 1
       have hfz60_2 := uI BK164.out 2
       have hfz60_3 := uI BK164.out 3
       have hcz61_0 : wr.cell? ⟨gb165, 0, none⟩ = some (.int .i64 0) := (uF BK165.out 0).trans rfl
       have hcz61_1 : wr.cell? ⟨gb165, 1, none⟩ = some (.int .i64 0) := (uF BK165.out 1).trans rfl
       have hcz61_2 : wr.cell? ⟨gb165, 2, none⟩ = some (.bool false) := (uF BK165.out 2).trans rfl
       have hcz61_3 : wr.cell? ⟨gb165, 3, none⟩ = some (.slice none 0 0) := (uF BK165.out 3).trans rfl
       have hfz61_0 := uI BK165.out 0
       have hfz61_1 := uI BK165.out 1
       have hfz61_2 := uI BK165.out 2
       have hfz61_3 := uI BK165.out 3
       obtain ⟨Ao62, co62, eo62⟩ := Kd.R_slice HO_165003.out
       subst eo62
       go_wp2
       refine bodyPost_ret (uR rfl _ _ gb165 29 #[.int .i64 x165000_2, .int .i64 x165001_2, .bool x165002_2, .slice Ao62 x165003_2.length co62] (0, 0) _ rfl (by (with_reducible repeat (first | refine uH ?_ _ | refine uJ ?_ | refine uG ?_ _)); refine uP (cs := #[.int .i64 x165000_2, .int .i64 x165001_2, .bool x165002_2, .slice none 0 0]) ?_ 3 _ rfl; (with_reducible repeat (first | refine uH ?_ _ | refine uJ ?_ | refine uG ?_ _)); refine uP (cs := #[.int .i64 x165000_2, .int .i64 x165001_2, .bool false, .slice none 0 0]) ?_ 2 _ rfl; (with_reducible repeat (first | refine uH ?_ _ | refine uJ ?_ | refine uG ?_ _)); refine uP (cs := #[.int .i64 x165000_2, .int .i64 0, .bool false, .slice none 0 0]) ?_ 1 _ rfl; (with_reducible repeat (first | refine uH ?_ _ | refine uJ ?_ | refine uG ?_ _)); refine uP (cs := #[.int .i64 0, .int .i64 0, .bool false, .slice none 0 0]) ?_ 0 _ rfl; (with_reducible repeat (first | refine uH ?_ _ | refine uJ ?_ | refine uG ?_ _)); exact BK165.out) Try.underlying29 rfl (by kernel_rfl)) rfl ?_
       exact ⟨_, _, by first | rfl | (simp [errW_none, errW_some] <;> rfl) | (simp [*, errW_none, errW_some] <;> rfl), by (with_reducible repeat (first | apply uU | apply uS | apply uT)); exact uX (uV (p := ⟨gb165, 3, none⟩) (uV (p := ⟨gb165, 2, none⟩) (uV (p := ⟨gb165, 1, none⟩) (uV (p := ⟨gb165, 0, none⟩) (uW HO_165003.out BK165.out (by decide)) (fun _ hk => hk.2) (.int .i64 x165000_2)) (fun _ hk => hk.2) (.int .i64 x165001_2)) (fun _ hk => hk.2) (.bool x165002_2)) (fun _ hk => hk.2) (.slice Ao62 x165003_2.length co62)) (fun _ hk => trivial), by (with_reducible repeat (first | apply uU | apply uS | apply uT)); exact uX (uV (p := ⟨gb165, 3, none⟩) (uV (p := ⟨gb165, 2, none⟩) (uV (p := ⟨gb165, 1, none⟩) (uV (p := ⟨gb165, 0, none⟩) (uW HO_6.out BK165.out (by decide)) (fun _ hk => hk.2) (.int .i64 x165000_2)) (fun _ hk => hk.2) (.int .i64 x165001_2)) (fun _ hk => hk.2) (.bool x165002_2)) (fun _ hk => hk.2) (.slice Ao62 x165003_2.length co62)) (fun _ hk => trivial), by repeat (first | (with_reducible first | exact HB.out | apply uL | apply uE | apply uK | refine uM ?_ GE164.out | refine uM ?_ GE165.out) | exact HB.out)⟩

/-! ### slices_Clone: function 72 -/
def slices_Clone.f (l0 : List S53) : Option (List S53) := if l0.length < 5864062014805 then some l0 else none
set_option maxHeartbeats 1000000 in
theorem slices_Clone.calls (A0 : Option Addr) (c0 : Nat) (l0 : List S53) (r : List S53) (w : World) (hr0 : Kd.C k53 w A0 l0.length l0) (hc0 : l0.length ≤ c0) (h : slices_Clone.f l0 = some r) :
    Calls Try.prog 72 #[.slice A0 l0.length c0] w fun e w' => ∃ v0_ : Value, e = .returned (v0_) ∧ Kd.R k53 53 w' w.heap.size (fun _ => True) v0_ r ∧ Below w.heap.size w w' := by
  have hinfo : (Try.prog.info? 53).map (fun i => (i.zero, i.size, i.bytes)) = some (some (.agg #[(.int .i64 0), (.int .i64 0), (.int .i64 0)]), 3, 24) := by kernel_rfl
  unfold slices_Clone.f at h
  by_cases hlim : l0.length < 5864062014805
  · rw [if_pos hlim] at h
    obtain rfl := Option.some.inj h
    clear h
    have HR := Aside0.mk hr0
    have LM := Aside0.mk hlim
    have HI := Aside0.mk hinfo
    have HB := Aside0.mk (Below.refl w.heap.size w)
    have hnil := fun W => Lib.run_eql_slice_nil (P := Try.prog) W 27 53 A0 l0.length c0 0 0 Try.underlying27
    clear hinfo hlim hc0
    cases A0 with
    | none =>
      have h0 : l0 = [] := by
        cases l0 with
        | nil => rfl
        | cons x l =>
          obtain ⟨ad, e, _⟩ := hr0.2.2 (by simp)
          cases e
      subst h0
      have hn : ∀ W, (binOp .eql 27 (.slice none 0 c0) (.slice none 0 0)).run Try.prog W = .ok (.bool true) W := fun W => (hnil W).trans (by rfl)
      clear hr0 hnil
      go_enter Try.func72, Try.ntmps72
      go_wp2
      go_ret
      exact ⟨_, rfl, Kd.R_nil _ _ _ _ _, HB.out⟩
    | some ad =>
      clear hr0
      go_enter Try.func72, Try.ntmps72
      go_wp2_with (first
        | ((with_reducible refine gate_dst (N := 5) rfl ?_); refine Kd.R_lit k53 _ 53 ?hg (N := 5) ?hd (xs := ([] : List S53)) (inner := []) (ok := fun _ => True) (okp := fun _ => True) ?hr ?hp (fun _ hk => hk) trivial (Below.refl _ _) (Nat.le_refl _) (by simp) ?_; (case hd => rfl); (case hg => rfl); (case hr => first | (go_simp; done) | (go_simp; rfl)); (case hp => exact (Reps.none _ _)); intro v5 w5 ho5 hb hg_ hnew_; clear hg_ hnew_; have n0_ := Aside0.mk ho5; have n1_ := Aside0.mk hb; clear ho5 hb; have HO5 := n0_; have HB5 := n1_; clear n0_ n1_)
        | ((with_reducible refine gate_builtin (b := .append) (xs := #[.tmp 5, .tmp 6]) rfl ?_); at_builtin; refine Kd.R_append_rows k53 (w0 := w) w.heap.size rfl (.tmp 5) (.tmp 6) 27 53 (.agg #[(.int .i64 0), (.int .i64 0), (.int .i64 0)]) 24 rfl Try.underlying27 HI.out rfl (by decide) (by omega) v5 ([] : List S53) l0 _ _ _ (fun _ => True) (fun _ => False) rfl rfl ?aO ?aR (fun _ _ h => h) (fun _ h => h.elim) ?aF ?aB ?aS ?aL ?_; (case aR => exact Kd.C_below HR.out HB5.out); (case aB => exact HB5.out); (case aF => exact (fun _ _ => trivial)); (case aO => exact HO5.out); (case aS => exact below_size HB5.out); (case aL => have := LM.out; simp; omega); intro v6 w6 ho hb hg hat; clear hg hat; have n0_ := Aside0.mk ho; have n1_ := Aside0.mk hb; clear ho hb; have HO6 := n0_; have HB6 := n1_; clear n0_ n1_; obtain ⟨Ao, co, eo⟩ := Kd.R_slice HO6.out; subst eo))
      go_ret
      exact ⟨_, rfl, HO6.out, HB6.out⟩
  · rw [if_neg hlim] at h
    cases h

/-! ### impl_copyBelt: function 54 -/
def impl_copyBelt.f (a0_0 : Int) (a0_1 : Int) (a0_2 : Bool) (l0_3 : List (S53)) : Option (Int × Int × Bool × (List (S53))) := (slices_Clone.f l0_3).bind fun t203 => (some (a0_0, a0_1, a0_2, t203))
set_option maxHeartbeats 8000000 in
set_option maxRecDepth 100000 in
theorem impl_copyBelt.calls (a0_0 : Int) (a0_1 : Int) (a0_2 : Bool) (A0_3 : Option Addr) (c0_3 : Nat) (l0_3 : List (S53)) (r1 : Int) (r2 : Int) (r3 : Bool) (r4 : List (S53)) (w : World) (hr0_3 : Kd.C k53 w A0_3 l0_3.length l0_3) (hc0_3 : l0_3.length ≤ c0_3) (h : impl_copyBelt.f a0_0 a0_1 a0_2 l0_3 = some (r1, r2, r3, r4)) :
  Calls Try.prog 54 #[.agg #[.int .i64 a0_0, .int .i64 a0_1, .bool a0_2, .slice A0_3 l0_3.length c0_3]] w fun e w' => ∃ v3_ : Value, e = .returned (.agg #[.int .i64 r1, .int .i64 r2, .bool r3, v3_]) ∧ Kd.R k53 53 w' w.heap.size (fun _ => True) v3_ r4 ∧ Below w.heap.size w w' := by
 have hu29 := Try.underlying29
 have HR0_3 := uD hr0_3
 have HC0_3 := uD hc0_3
 clear hr0_3 hc0_3
 have HB := uD (Below.refl w.heap.size w)
 have H : ((slices_Clone.f l0_3).bind fun t203 => (some (a0_0, a0_1, a0_2, t203))) = some (r1, r2, r3, r4) := h
 clear h
 replace H := Option.bind_eq_some_iff.mp H
 obtain ⟨t203, A20, H⟩ := H
 replace H : (some (a0_0, a0_1, a0_2, t203)) = some (r1, r2, r3, r4) := H
 have A2 := uD A20
 clear A20
 simp only [Option.some.injEq, Prod.mk.injEq] at H
 obtain ⟨rfl, rfl, rfl, rfl⟩ := H
 go_enter Try.func54, Try.ntmps54
 go_wp2_with (first | ((with_reducible refine gate_dst (N := 1) rfl ?_); refine box_event ?hg (N := 1) ?hd (cs := #[.int .i64 a0_0, .int .i64 a0_1, .bool a0_2, .slice A0_3 l0_3.length c0_3]) (t := 29) ?hr ?_; (case hd => rfl); (case hg => rfl); (case hr => first | (go_simp; done) | (go_simp; rfl)); intro gb201 hg w3 hbox hb; have BK201 := uD (hbox); have GW201 := uD ((by rw [hg]; exact (uN (by repeat (first | (with_reducible first | exact HB.out | apply uL | apply uE | apply uK) | exact HB.out))) : w.heap.size ≤ gb201)); have GE201 := uD ((by rw [hg]; exact (uN (by repeat (first | (with_reducible first | exact HB.out | apply uL | apply uE | apply uK) | exact HB.out))) : w.heap.size ≤ gb201)); replace HB := uD (uO (by repeat (first | (with_reducible first | exact HB.out | apply uL | apply uE | apply uK) | exact HB.out)) hb); clear hb hbox hg) | ((with_reducible refine gate_dst (N := 2) rfl ?_); refine box_event ?hg (N := 2) ?hd (cs := #[.int .i64 0, .int .i64 0, .bool false, .slice none 0 0]) (t := 29) ?hr ?_; (case hd => rfl); (case hg => rfl); (case hr => first | (go_simp; done) | (go_simp; rfl)); intro gb202 hg w4 hbox hb; have BK202 := uD (hbox); have GW202 := uD ((by rw [hg]; exact (uN (by repeat (first | (with_reducible first | exact HB.out | apply uL | apply uE | apply uK | refine uM ?_ GE201.out) | exact HB.out))) : w.heap.size ≤ gb202)); have GE202 := uD ((by rw [hg]; exact (uN (by repeat (first | (with_reducible first | exact HB.out | apply uL | apply uE | apply uK | refine uM ?_ GE201.out) | exact HB.out))) : w.heap.size ≤ gb202)); replace HB := uD (uO (by repeat (first | (with_reducible first | exact HB.out | apply uL | apply uE | apply uK | refine uM ?_ GE201.out) | exact HB.out)) hb); have NB201_202 := uD ((by rw [hg]; exact Nat.ne_of_lt (blk_lt (g := gb201) (o := .cells #[.int .i64 a0_0, .int .i64 a0_1, .bool a0_2, .slice A0_3 l0_3.length c0_3] 29 (0, 0)) (by (with_reducible repeat (first | refine uH ?_ _ | refine uJ ?_ | refine uG ?_ _)); exact BK201.out)) : gb201 ≠ gb202)); have NB202_201 := uD ((by rw [hg]; exact Nat.ne_of_gt (blk_lt (g := gb201) (o := .cells #[.int .i64 a0_0, .int .i64 a0_1, .bool a0_2, .slice A0_3 l0_3.length c0_3] 29 (0, 0)) (by (with_reducible repeat (first | refine uH ?_ _ | refine uJ ?_ | refine uG ?_ _)); exact BK201.out)) : gb202 ≠ gb201)); replace BK201 := uD (blk_below (g := gb201) (o := .cells #[.int .i64 a0_0, .int .i64 a0_1, .bool a0_2, .slice A0_3 l0_3.length c0_3] 29 (0, 0)) (by (with_reducible repeat (first | refine uH ?_ _ | refine uJ ?_ | refine uG ?_ _)); exact BK201.out) hb); clear hb hbox hg; have hnb5 := NB201_202.out; have hnc5 := NB202_201.out; have hcz6_0 : w4.cell? ⟨gb201, 0, none⟩ = some (.int .i64 a0_0) := (uF BK201.out 0).trans rfl; have hcz6_1 : w4.cell? ⟨gb201, 1, none⟩ = some (.int .i64 a0_1) := (uF BK201.out 1).trans rfl; have hcz6_2 : w4.cell? ⟨gb201, 2, none⟩ = some (.bool a0_2) := (uF BK201.out 2).trans rfl; have hcz6_3 : w4.cell? ⟨gb201, 3, none⟩ = some (.slice A0_3 l0_3.length c0_3) := (uF BK201.out 3).trans rfl; have hfz6_0 := uI BK201.out 0; have hfz6_1 := uI BK201.out 1; have hfz6_2 := uI BK201.out 2; have hfz6_3 := uI BK201.out 3) | ((with_reducible refine gate_callee (f := 72) rfl ?_); refine goesL_ (some 5) rfl rfl Try.func72 (by kernel_rfl) rfl #[.slice A0_3 l0_3.length c0_3] rfl (by (try simp only [List.map_toArray, List.map_cons, List.map_nil]); first | done | rfl | (simp only [List.length_drop, List.length_take]; rfl)) ?_; (with_reducible refine (slices_Clone.calls _ _ l0_3 t203 _ ?side1 ?side2 A2.out).mono ?_); (case side1 => repeat (first | exact (Kd.C_below HR0_3.out HB.out) | (with_reducible refine Kd.C_alloc ?_ _) | (with_reducible refine Kd.C_drewN ?_ _) | (with_reducible refine Kd.C_drew ?_))); (case side2 => exact HC0_3.out); rintro e w7 ⟨v204, rfl, ho0, hb⟩; refine ⟨_, rfl, ?_⟩; have HO205 := uD (Kd.R_lower ho0 (uN (by repeat (first | (with_reducible first | exact HB.out | apply uL | apply uE | apply uK | refine uM ?_ GE201.out | refine uM ?_ GE202.out) | exact HB.out)))); replace BK201 := uD (blk_below (g := gb201) (o := .cells #[.int .i64 a0_0, .int .i64 a0_1, .bool a0_2, .slice A0_3 l0_3.length c0_3] 29 (0, 0)) (by (with_reducible repeat (first | refine uH ?_ _ | refine uJ ?_ | refine uG ?_ _)); exact BK201.out) hb); replace BK202 := uD (blk_below (g := gb202) (o := .cells #[.int .i64 0, .int .i64 0, .bool false, .slice none 0 0] 29 (0, 0)) (by (with_reducible repeat (first | refine uH ?_ _ | refine uJ ?_ | refine uG ?_ _)); exact BK202.out) hb); replace HB := uD (uO (by repeat (first | (with_reducible first | exact HB.out | apply uL | apply uE | apply uK | refine uM ?_ GE201.out | refine uM ?_ GE202.out) | exact HB.out)) hb); (try clear hb); (try clear hb2); (try clear hk); (try clear hi); (try clear ho0); obtain ⟨Ao8, co8, eo8⟩ := Kd.R_slice HO205.out; subst eo8; have hcz9_0 : w7.cell? ⟨gb201, 0, none⟩ = some (.int .i64 a0_0) := (uF BK201.out 0).trans rfl; have hcz9_1 : w7.cell? ⟨gb201, 1, none⟩ = some (.int .i64 a0_1) := (uF BK201.out 1).trans rfl; have hcz9_2 : w7.cell? ⟨gb201, 2, none⟩ = some (.bool a0_2) := (uF BK201.out 2).trans rfl; have hcz9_3 : w7.cell? ⟨gb201, 3, none⟩ = some (.slice A0_3 l0_3.length c0_3) := (uF BK201.out 3).trans rfl; have hfz9_0 := uI BK201.out 0; have hfz9_1 := uI BK201.out 1; have hfz9_2 := uI BK201.out 2; have hfz9_3 := uI BK201.out 3; have hcz10_0 : w7.cell? ⟨gb202, 0, none⟩ = some (.int .i64 0) := (uF BK202.out 0).trans rfl; have hcz10_1 : w7.cell? ⟨gb202, 1, none⟩ = some (.int .i64 0) := (uF BK202.out 1).trans rfl; have hcz10_2 : w7.cell? ⟨gb202, 2, none⟩ = some (.bool false) := (uF BK202.out 2).trans rfl; have hcz10_3 : w7.cell? ⟨gb202, 3, none⟩ = some (.slice none 0 0) := (uF BK202.out 3).trans rfl; have hfz10_0 := uI BK202.out 0; have hfz10_1 := uI BK202.out 1; have hfz10_2 := uI BK202.out 2; have hfz10_3 := uI BK202.out 3))
 refine bodyPost_ret (results_cell_row rfl _ _ gb202 29 #[.int .i64 a0_0, .int .i64 a0_1, .bool a0_2, .slice Ao8 t203.length co8] (0, 0) _ rfl (by (with_reducible repeat (first | refine uH ?_ _ | refine uJ ?_ | refine uG ?_ _)); refine uP (cs := #[.int .i64 a0_0, .int .i64 a0_1, .bool a0_2, .slice none 0 0]) ?_ 3 _ rfl; (with_reducible repeat (first | refine uH ?_ _ | refine uJ ?_ | refine uG ?_ _)); refine uP (cs := #[.int .i64 a0_0, .int .i64 a0_1, .bool false, .slice none 0 0]) ?_ 2 _ rfl; (with_reducible repeat (first | refine uH ?_ _ | refine uJ ?_ | refine uG ?_ _)); refine uP (cs := #[.int .i64 a0_0, .int .i64 0, .bool false, .slice none 0 0]) ?_ 1 _ rfl; (with_reducible repeat (first | refine uH ?_ _ | refine uJ ?_ | refine uG ?_ _)); refine uP (cs := #[.int .i64 0, .int .i64 0, .bool false, .slice none 0 0]) ?_ 0 _ rfl; (with_reducible repeat (first | refine uH ?_ _ | refine uJ ?_ | refine uG ?_ _)); refine uQ ?_ NB202_201.out _; (with_reducible repeat (first | refine uH ?_ _ | refine uJ ?_ | refine uG ?_ _)); exact BK202.out) Try.underlying29 rfl (by kernel_rfl)) rfl ?_
 exact ⟨_, by first | rfl | (simp [errW_none, errW_some] <;> rfl) | (simp [*, errW_none, errW_some] <;> rfl), by (with_reducible repeat (first | apply uU | apply uS | apply uT)); exact uX (uV (p := ⟨gb202, 3, none⟩) (uV (p := ⟨gb202, 2, none⟩) (uV (p := ⟨gb202, 1, none⟩) (uV (p := ⟨gb202, 0, none⟩) (uV (p := ⟨gb201, 3, none⟩) (uW (uW HO205.out BK201.out (by decide)) BK202.out (by decide)) (fun _ hk => hk.1.2) (.slice Ao8 t203.length co8)) (fun _ hk => hk.2) (.int .i64 a0_0)) (fun _ hk => hk.2) (.int .i64 a0_1)) (fun _ hk => hk.2) (.bool a0_2)) (fun _ hk => hk.2) (.slice Ao8 t203.length co8)) (fun _ hk => trivial), by repeat (first | (with_reducible first | exact HB.out | apply uL | apply uE | apply uK | refine uM ?_ GE201.out | refine uM ?_ GE202.out) | exact HB.out)⟩

end Go.Proofs.Ytbdjbdoelbmjcaa.PFnBeltRuns
