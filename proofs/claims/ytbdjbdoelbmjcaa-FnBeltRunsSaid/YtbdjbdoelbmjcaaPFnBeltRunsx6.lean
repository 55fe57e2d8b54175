-- Written by a program of this session (wip/myprint.py: the kit's print with changes): not by print.sh itself.
import Derived.Test.YtbdjbdoelbmjcaaPFnBeltRunsx0
import Derived.Test.YtbdjbdoelbmjcaaPFnBeltRunsx3
namespace Go.Proofs.Ytbdjbdoelbmjcaa.PFnBeltRuns
open Go.RowKit Go.Proofs.YtbdjbdoelbmjcaaW.PrintWords Go.Proofs.YtbdjbdoelbmjcaaW.PrintLast Go.Proofs.YtbdjbdoelbmjcaaW.PrintMore
open Go renaming Act.put → uc
open Go.Proofs.YtbdjbdoelbmjcaaW.PrintLast renaming any_of → uY, i64_w → uZ, i32_w → ua, pure_ → ub
open Go.Proofs.YtbdjbdoelbmjcaaW.PrintWords renaming Aside0.mk → uD, pw_below_drewN → uE, blk_cell → uF, blk_alloc → uG, blk_drewN → uH, blk_frozen → uI, blk_drew → uJ, below_drew1 → uK, below_alloc → uL, below_set → uM, below_size → uN, below_step → uO, blk_put → uP, blk_far → uQ, Kd.R_drewN → uS, Kd.R_drew → uT, Kd.R_alloc → uU, Kd.R_far → uV, Kd.R_types → uW, Kd.R_mono → uX
open List renaming setIfInBounds_toArray → uA, set_cons_zero → uB, set_cons_succ → uC
open Bool renaming true → T, false → F
attribute [local go_sem] max2_int min2_int max_two min_two max_three min_three max_four min_four   -- for this text's walks alone
set_option linter.unusedVariables false
set_option linter.unusedSimpArgs false

/-! ### spec_l02Fresh: function 55 -/
def spec_l02Fresh.f (a0_0 : Int) (a0_1 : Int) (a0_2 : Bool) (l0_3 : List (S53)) : Option (Int × Int × Bool × (List (S53))) := (some (([] : List (S53)) : List (S53))).bind fun y121 => (if y121.length + l0_3.length < 5864062014805 then (some (a0_0, a0_1, a0_2, (y121 ++ l0_3))) else (none))
set_option maxHeartbeats 8000000 in
set_option maxRecDepth 100000 in
theorem spec_l02Fresh.calls (a0_0 : Int) (a0_1 : Int) (a0_2 : Bool) (A0_3 : Option Addr) (c0_3 : Nat) (l0_3 : List (S53)) (r1 : Int) (r2 : Int) (r3 : Bool) (r4 : List (S53)) (w : World) (hr0_3 : Kd.C k53 w A0_3 l0_3.length l0_3) (hc0_3 : l0_3.length ≤ c0_3) (h : spec_l02Fresh.f a0_0 a0_1 a0_2 l0_3 = some (r1, r2, r3, r4)) :
  Calls Try.prog 55 #[.agg #[.int .i64 a0_0, .int .i64 a0_1, .bool a0_2, .slice A0_3 l0_3.length c0_3]] w fun e w' => ∃ v3_ : Value, e = .returned (.agg #[.int .i64 r1, .int .i64 r2, .bool r3, v3_]) ∧ Kd.R k53 53 w' w.heap.size (fun _ => True) v3_ r4 ∧ Below w.heap.size w w' := by
 have hu29 := Try.underlying29
 have HR0_3 := uD hr0_3
 have HC0_3 := uD hc0_3
 clear hr0_3 hc0_3
 have HB := uD (Below.refl w.heap.size w)
 have H : ((some (([] : List (S53)) : List (S53))).bind fun y121 => (if y121.length + l0_3.length < 5864062014805 then (some (a0_0, a0_1, a0_2, (y121 ++ l0_3))) else (none))) = some (r1, r2, r3, r4) := h
 clear h
 obtain ⟨y121, hy121⟩ : ∃ y_ : List (S53), y_ = (([] : List (S53))) := ⟨_, rfl⟩
 replace H : (if y121.length + l0_3.length < 5864062014805 then (some (a0_0, a0_1, a0_2, (y121 ++ l0_3))) else (none)) = some (r1, r2, r3, r4) := by first | (rw [hy121]; with_reducible exact H) | (have H2_ := (Option.bind_some _ _).symm.trans H; rw [hy121]; with_reducible exact H2_) | (have H2_ := (Option.bind_some _ _).symm.trans H; with_reducible exact H2_) | with_reducible exact H | (rw [hy121]; exact H) | exact H
 have Ny121 := uD hy121
 clear hy121
 by_cases c2 : y121.length + l0_3.length < 5864062014805
 ·rw [if_pos c2] at H
  have LMc2 := uD c2
  clear c2
  obtain ⟨y124, hy124⟩ : ∃ y_ : List (S53), y_ = (y121 ++ l0_3) := ⟨_, rfl⟩
  replace H : (some (a0_0, a0_1, a0_2, y124)) = some (r1, r2, r3, r4) := by first | (rw [hy124]; with_reducible exact H) | (have H2_ := (Option.bind_some _ _).symm.trans H; rw [hy124]; with_reducible exact H2_) | (have H2_ := (Option.bind_some _ _).symm.trans H; with_reducible exact H2_) | with_reducible exact H | (rw [hy124]; exact H) | exact H
  have Ny124 := uD hy124
  clear hy124
  simp only [Option.some.injEq, Prod.mk.injEq] at H
  obtain ⟨rfl, rfl, rfl, rfl⟩ := H
  go_enter Try.func55, Try.ntmps55
  go_wp2_with (first | ((with_reducible refine gate_dst (N := 1) rfl ?_); refine box_event ?hg (N := 1) ?hd (cs := #[.int .i64 a0_0, .int .i64 a0_1, .bool a0_2, .slice A0_3 l0_3.length c0_3]) (t := 29) ?hr ?_; (case hd => rfl); (case hg => rfl); (case hr => first | (go_simp; done) | (go_simp; rfl)); intro gb119 hg w3 hbox hb; have BK119 := uD (hbox); have GW119 := uD ((by rw [hg]; exact (uN (by repeat (first | (with_reducible first | exact HB.out | apply uL | apply uE | apply uK) | exact HB.out))) : w.heap.size ≤ gb119)); have GE119 := uD ((by rw [hg]; exact (uN (by repeat (first | (with_reducible first | exact HB.out | apply uL | apply uE | apply uK) | exact HB.out))) : w.heap.size ≤ gb119)); replace HB := uD (uO (by repeat (first | (with_reducible first | exact HB.out | apply uL | apply uE | apply uK) | exact HB.out)) hb); clear hb hbox hg) | ((with_reducible refine gate_dst (N := 2) rfl ?_); refine box_event ?hg (N := 2) ?hd (cs := #[.int .i64 0, .int .i64 0, .bool false, .slice none 0 0]) (t := 29) ?hr ?_; (case hd => rfl); (case hg => rfl); (case hr => first | (go_simp; done) | (go_simp; rfl)); intro gb120 hg w4 hbox hb; have BK120 := uD (hbox); have GW120 := uD ((by rw [hg]; exact (uN (by repeat (first | (with_reducible first | exact HB.out | apply uL | apply uE | apply uK | refine uM ?_ GE119.out) | exact HB.out))) : w.heap.size ≤ gb120)); have GE120 := uD ((by rw [hg]; exact (uN (by repeat (first | (with_reducible first | exact HB.out | apply uL | apply uE | apply uK | refine uM ?_ GE119.out) | exact HB.out))) : w.heap.size ≤ gb120)); replace HB := uD (uO (by repeat (first | (with_reducible first | exact HB.out | apply uL | apply uE | apply uK | refine uM ?_ GE119.out) | exact HB.out)) hb); have NB119_120 := uD ((by rw [hg]; exact Nat.ne_of_lt (blk_lt (g := gb119) (o := .cells #[.int .i64 a0_0, .int .i64 a0_1, .bool a0_2, .slice A0_3 l0_3.length c0_3] 29 (0, 0)) (by (with_reducible repeat (first | refine uH ?_ _ | refine uJ ?_ | refine uG ?_ _)); exact BK119.out)) : gb119 ≠ gb120)); have NB120_119 := uD ((by rw [hg]; exact Nat.ne_of_gt (blk_lt (g := gb119) (o := .cells #[.int .i64 a0_0, .int .i64 a0_1, .bool a0_2, .slice A0_3 l0_3.length c0_3] 29 (0, 0)) (by (with_reducible repeat (first | refine uH ?_ _ | refine uJ ?_ | refine uG ?_ _)); exact BK119.out)) : gb120 ≠ gb119)); replace BK119 := uD (blk_below (g := gb119) (o := .cells #[.int .i64 a0_0, .int .i64 a0_1, .bool a0_2, .slice A0_3 l0_3.length c0_3] 29 (0, 0)) (by (with_reducible repeat (first | refine uH ?_ _ | refine uJ ?_ | refine uG ?_ _)); exact BK119.out) hb); clear hb hbox hg) | ((with_reducible refine gate_dst (N := 3) rfl ?_); refine Kd.R_lit k53 _ 53 ?hg (N := 3) ?hd (xs := ([] : List (S53))) (inner := []) (ok := fun _ => True) (okp := fun _ => True) ?hr ?hp (fun _ hk => hk) trivial (Below.refl _ _) (Nat.le_refl _) (by simp) ?_; (case hd => rfl); (case hg => rfl); (case hr => first | (go_simp; done) | (go_simp; rfl)); (case hp => exact (Reps.none _ _)); intro v122 w5 ho6 hb hg_ hnew_; clear hg_ hnew_; (first | rw [← Ny121.out] at ho6 | (simp only [Int.reduceToNat] at ho6; rw [← Ny121.out] at ho6)); have HO123 := uD (Kd.R_lower ho6 (uN (by repeat (first | (with_reducible first | exact HB.out | apply uL | apply uE | apply uK | refine uM ?_ GE119.out | refine uM ?_ GE120.out) | exact HB.out)))); replace BK119 := uD (blk_below (g := gb119) (o := .cells #[.int .i64 a0_0, .int .i64 a0_1, .bool a0_2, .slice A0_3 l0_3.length c0_3] 29 (0, 0)) (by (with_reducible repeat (first | refine uH ?_ _ | refine uJ ?_ | refine uG ?_ _)); exact BK119.out) hb); replace BK120 := uD (blk_below (g := gb120) (o := .cells #[.int .i64 0, .int .i64 0, .bool false, .slice none 0 0] 29 (0, 0)) (by (with_reducible repeat (first | refine uH ?_ _ | refine uJ ?_ | refine uG ?_ _)); exact BK120.out) hb); replace HB := uD (uO (by repeat (first | (with_reducible first | exact HB.out | apply uL | apply uE | apply uK | refine uM ?_ GE119.out | refine uM ?_ GE120.out) | exact HB.out)) hb); clear hb ho6; have hnb7 := NB119_120.out; have hnc7 := NB120_119.out; have hcz8_0 : w5.cell? ⟨gb119, 0, none⟩ = some (.int .i64 a0_0) := (uF BK119.out 0).trans rfl; have hcz8_1 : w5.cell? ⟨gb119, 1, none⟩ = some (.int .i64 a0_1) := (uF BK119.out 1).trans rfl; have hcz8_2 : w5.cell? ⟨gb119, 2, none⟩ = some (.bool a0_2) := (uF BK119.out 2).trans rfl; have hcz8_3 : w5.cell? ⟨gb119, 3, none⟩ = some (.slice A0_3 l0_3.length c0_3) := (uF BK119.out 3).trans rfl; have hfz8_0 := uI BK119.out 0; have hfz8_1 := uI BK119.out 1; have hfz8_2 := uI BK119.out 2; have hfz8_3 := uI BK119.out 3) | ((with_reducible refine gate_builtin (b := .append) (xs := #[.tmp 3, .tmp 5]) rfl ?_); at_builtin; refine Kd.R_append_rows k53 (w0 := w) w.heap.size rfl (.tmp 3) (.tmp 5) 27 53 (.agg #[(.int .i64 0), (.int .i64 0), (.int .i64 0)]) 24 rfl Try.underlying27 info53 rfl (by decide) (by omega) v122 y121 l0_3 _ _ _ (fun _ => True) (fun _ => False) rfl rfl ?aO ?aR (fun _ _ h => h) (fun _ h => h.elim) ?aF ?aB ?aS ?aL ?_; (case aR => repeat (first | exact (Kd.C_below HR0_3.out HB.out) | (with_reducible refine Kd.C_alloc ?_ _) | (with_reducible refine Kd.C_drewN ?_ _) | (with_reducible refine Kd.C_drew ?_))); (case aB => exact (by repeat (first | (with_reducible first | exact HB.out | apply uL | apply uE | apply uK | refine uM ?_ GE119.out | refine uM ?_ GE120.out) | exact HB.out))); (case aF => exact (fun _ _ => trivial)); (case aO => exact (by (with_reducible repeat (first | apply uU | apply uS | apply uT)); exact HO123.out)); (case aS => exact (uN (by repeat (first | (with_reducible first | exact HB.out | apply uL | apply uE | apply uK | refine uM ?_ GE119.out | refine uM ?_ GE120.out) | exact HB.out)))); (case aL => have := LMc2.out; omega); intro v125 w9 ho hb hg hat; rw [← Ny124.out] at ho; replace BK119 := uD (blk_grown (g := gb119) (o := .cells #[.int .i64 a0_0, .int .i64 a0_1, .bool a0_2, .slice A0_3 l0_3.length c0_3] 29 (0, 0)) (by (with_reducible repeat (first | refine uH ?_ _ | refine uJ ?_ | refine uG ?_ _)); exact BK119.out) hg (Kd.R_ne HO123.out BK119.out (by decide))); replace BK120 := uD (blk_grown (g := gb120) (o := .cells #[.int .i64 0, .int .i64 0, .bool false, .slice none 0 0] 29 (0, 0)) (by (with_reducible repeat (first | refine uH ?_ _ | refine uJ ?_ | refine uG ?_ _)); exact BK120.out) hg (Kd.R_ne HO123.out BK120.out (by decide))); replace HB := uD (hb); have HO126 := uD (ho); clear HO123; clear ho hb hg hat; obtain ⟨Ao10, co10, eo10⟩ := Kd.R_slice HO126.out; subst eo10; have hcz11_0 : w9.cell? ⟨gb119, 0, none⟩ = some (.int .i64 a0_0) := (uF BK119.out 0).trans rfl; have hcz11_1 : w9.cell? ⟨gb119, 1, none⟩ = some (.int .i64 a0_1) := (uF BK119.out 1).trans rfl; have hcz11_2 : w9.cell? ⟨gb119, 2, none⟩ = some (.bool a0_2) := (uF BK119.out 2).trans rfl; have hcz11_3 : w9.cell? ⟨gb119, 3, none⟩ = some (.slice A0_3 l0_3.length c0_3) := (uF BK119.out 3).trans rfl; have hfz11_0 := uI BK119.out 0; have hfz11_1 := uI BK119.out 1; have hfz11_2 := uI BK119.out 2; have hfz11_3 := uI BK119.out 3; have hcz12_0 : w9.cell? ⟨gb120, 0, none⟩ = some (.int .i64 0) := (uF BK120.out 0).trans rfl; have hcz12_1 : w9.cell? ⟨gb120, 1, none⟩ = some (.int .i64 0) := (uF BK120.out 1).trans rfl; have hcz12_2 : w9.cell? ⟨gb120, 2, none⟩ = some (.bool false) := (uF BK120.out 2).trans rfl; have hcz12_3 : w9.cell? ⟨gb120, 3, none⟩ = some (.slice none 0 0) := (uF BK120.out 3).trans rfl; have hfz12_0 := uI BK120.out 0; have hfz12_1 := uI BK120.out 1; have hfz12_2 := uI BK120.out 2; have hfz12_3 := uI BK120.out 3))
  refine bodyPost_ret (results_cell_row rfl _ _ gb120 29 #[.int .i64 a0_0, .int .i64 a0_1, .bool a0_2, .slice Ao10 y124.length co10] (0, 0) _ rfl (by (with_reducible repeat (first | refine uH ?_ _ | refine uJ ?_ | refine uG ?_ _)); refine uP (cs := #[.int .i64 a0_0, .int .i64 a0_1, .bool a0_2, .slice none 0 0]) ?_ 3 _ rfl; (with_reducible repeat (first | refine uH ?_ _ | refine uJ ?_ | refine uG ?_ _)); refine uP (cs := #[.int .i64 a0_0, .int .i64 a0_1, .bool false, .slice none 0 0]) ?_ 2 _ rfl; (with_reducible repeat (first | refine uH ?_ _ | refine uJ ?_ | refine uG ?_ _)); refine uP (cs := #[.int .i64 a0_0, .int .i64 0, .bool false, .slice none 0 0]) ?_ 1 _ rfl; (with_reducible repeat (first | refine uH ?_ _ | refine uJ ?_ | refine uG ?_ _)); refine uP (cs := #[.int .i64 0, .int .i64 0, .bool false, .slice none 0 0]) ?_ 0 _ rfl; (with_reducible repeat (first | refine uH ?_ _ | refine uJ ?_ | refine uG ?_ _)); refine uQ ?_ NB120_119.out _; (with_reducible repeat (first | refine uH ?_ _ | refine uJ ?_ | refine uG ?_ _)); exact BK120.out) Try.underlying29 rfl (by kernel_rfl)) rfl ?_
  exact ⟨_, by first | rfl | (simp [errW_none, errW_some] <;> rfl) | (simp [*, errW_none, errW_some] <;> rfl), by (with_reducible repeat (first | apply uU | apply uS | apply uT)); exact uX (uV (p := ⟨gb120, 3, none⟩) (uV (p := ⟨gb120, 2, none⟩) (uV (p := ⟨gb120, 1, none⟩) (uV (p := ⟨gb120, 0, none⟩) (uV (p := ⟨gb119, 3, none⟩) (uW (uW HO126.out BK119.out (by decide)) BK120.out (by decide)) (fun _ hk => hk.1.2) (.slice Ao10 y124.length co10)) (fun _ hk => hk.2) (.int .i64 a0_0)) (fun _ hk => hk.2) (.int .i64 a0_1)) (fun _ hk => hk.2) (.bool a0_2)) (fun _ hk => hk.2) (.slice Ao10 y124.length co10)) (fun _ hk => trivial), by repeat (first | (with_reducible first | exact HB.out | apply uL | apply uE | apply uK | refine uM ?_ GE119.out | refine uM ?_ GE120.out) | exact HB.out)⟩
 ·rw [if_neg c2] at H
  exact absurd H (by simp)

/-! ### spec_Leave: function 26 -/
def spec_Leave.f (k : Nat) (a0_0 : Int) (a0_1 : Int) (a0_2 : Bool) (l0_3 : List (S53)) : Option (Int × Int × Bool × (List (S53)) × Int × Bool) := (spec_l02Fresh.f a0_0 a0_1 a0_2 l0_3).bind fun bt129 => ((spec_BeltOk.f k bt129.1 bt129.2.1 bt129.2.2.1 bt129.2.2.2).bind fun t135 => (if t135 = true then (if bt129.2.2.1 = true then (some (bt129.1, bt129.2.1, bt129.2.2.1, bt129.2.2.2, 0, false)) else (if (bt129.2.2.2.length : Int) = 0 then (some (bt129.1, bt129.2.1, bt129.2.2.1, bt129.2.2.2, 0, false)) else (if 0 < (bt129.2.2.2.length : Int) then (if ((rd_T53 bt129.2.2.2 0).f1) < bt129.1 then (some (bt129.1, bt129.2.1, bt129.2.2.1, bt129.2.2.2, 0, false)) else ((some (([] : List (S53)) : List (S53))).bind fun y138 => (if 1 ≤ (bt129.2.2.2.length : Int) then ((some (bt129.2.2.2.drop 1 : List (S53))).bind fun y141 => (if y138.length + y141.length < 5864062014805 then (some (bt129.1, bt129.2.1, bt129.2.2.1, (y138 ++ y141), (rd_T53 bt129.2.2.2 0).f0, true)) else (none))) else (none)))) else (none)))) else (some (bt129.1, bt129.2.1, bt129.2.2.1, bt129.2.2.2, 0, false))))
theorem spec_Leave.mono : ∀ a0 a1 a2 a3 k, LeO (spec_Leave.f k a0 a1 a2 a3) (spec_Leave.f (k + 1) a0 a1 a2 a3) := by
 intro a0 a1 a2 a3 k
 unfold spec_Leave.f
 repeat' first
   | (with_reducible exact spec_BeltOk.mono _ _ _ _ _)
   | (with_reducible exact LeO.refl _)
   | (with_reducible exact LeO.none _)
   | (with_reducible refine LeO.ite ?_ ?_)
   | (with_reducible refine LeO.bind ?_ (fun _ => ?_))
   | exact spec_BeltOk.mono _ _ _ _ _
   | exact LeO.none _
   | refine LeO.ite ?_ ?_
   | refine LeO.bind ?_ (fun _ => ?_)
def spec_Leave.T2 : Bool × List (List Nat × List Nat) := (true, [([], []), ([0], [0]), ([1], [1]), ([2, 1], [2]), ([3], [3]), ([4, 3], [3, 4]), ([3, 5], [3, 5]), ([6, 3], [6]), ([7], [7]), ([8, 7], [7, 8]), ([9, 7], [7, 9]), ([10, 7], [7, 10]), ([7, 11], [7, 11]), ([12, 7], [12]), ([13], [13]), ([14, 13], [13, 14]), ([15, 13], [13, 15]), ([16, 13], [13, 16]), ([17, 13], [13, 17]), ([13], [13]), ([19, 13], [13, 19]), ([18, 20, 13], [13, 18, 20]), ([13, 21], [13, 21])])
def spec_Leave.B2 : List Nat := [0, 1, 3, 7, 15, 31, 63, 127, 255, 511, 1023, 2047, 4095, 8191, 16383, 32767, 65535, 131071, 262143, 16383, 540671, 2097151, 4194303]
theorem spec_Leave.tab2 : rtab .any (opsOf Try.f26 2) = spec_Leave.T2 := by kernel_rfl
theorem spec_Leave.bits2 : waitsOk spec_Leave.T2.2 spec_Leave.B2 = true := by kernel_rfl
set_option maxHeartbeats 8000000 in
set_option maxRecDepth 100000 in
theorem spec_Leave.calls (k : Nat) (a0_0 : Int) (a0_1 : Int) (a0_2 : Bool) (A0_3 : Option Addr) (c0_3 : Nat) (l0_3 : List (S53)) (r1 : Int) (r2 : Int) (r3 : Bool) (r4 : List (S53)) (r5 : Int) (r6 : Bool) (w : World) (hr0_3 : Kd.C k53 w A0_3 l0_3.length l0_3) (hc0_3 : l0_3.length ≤ c0_3) (h : spec_Leave.f k a0_0 a0_1 a0_2 l0_3 = some (r1, r2, r3, r4, r5, r6)) :
  Calls Try.prog 26 #[.agg #[.int .i64 a0_0, .int .i64 a0_1, .bool a0_2, .slice A0_3 l0_3.length c0_3]] w fun e w' => ∃ v3_ : Value, e = .returned (.tuple #[.agg #[.int .i64 r1, .int .i64 r2, .bool r3, v3_], .int .i64 r5, .bool r6]) ∧ Kd.R k53 53 w' w.heap.size (fun _ => True) v3_ r4 ∧ Below w.heap.size w w' := by
 have hu29 := Try.underlying29
 have HR0_3 := uD hr0_3
 have HC0_3 := uD hc0_3
 clear hr0_3 hc0_3
 have HB := uD (Below.refl w.heap.size w)
 have H : ((spec_l02Fresh.f a0_0 a0_1 a0_2 l0_3).bind fun bt129 => ((spec_BeltOk.f k bt129.1 bt129.2.1 bt129.2.2.1 bt129.2.2.2).bind fun t135 => (if t135 = true then (if bt129.2.2.1 = true then (some (bt129.1, bt129.2.1, bt129.2.2.1, bt129.2.2.2, 0, false)) else (if (bt129.2.2.2.length : Int) = 0 then (some (bt129.1, bt129.2.1, bt129.2.2.1, bt129.2.2.2, 0, false)) else (if 0 < (bt129.2.2.2.length : Int) then (if ((rd_T53 bt129.2.2.2 0).f1) < bt129.1 then (some (bt129.1, bt129.2.1, bt129.2.2.1, bt129.2.2.2, 0, false)) else ((some (([] : List (S53)) : List (S53))).bind fun y138 => (if 1 ≤ (bt129.2.2.2.length : Int) then ((some (bt129.2.2.2.drop 1 : List (S53))).bind fun y141 => (if y138.length + y141.length < 5864062014805 then (some (bt129.1, bt129.2.1, bt129.2.2.1, (y138 ++ y141), (rd_T53 bt129.2.2.2 0).f0, true)) else (none))) else (none)))) else (none)))) else (some (bt129.1, bt129.2.1, bt129.2.2.1, bt129.2.2.2, 0, false))))) = some (r1, r2, r3, r4, r5, r6) := h
 clear h
 replace H := Option.bind_eq_some_iff.mp H
 obtain ⟨⟨t129, t130, t131, t132⟩, A20, H⟩ := H
 replace H : ((spec_BeltOk.f k t129 t130 t131 t132).bind fun t135 => (if t135 = true then (if t131 = true then (some (t129, t130, t131, t132, 0, false)) else (if (t132.length : Int) = 0 then (some (t129, t130, t131, t132, 0, false)) else (if 0 < (t132.length : Int) then (if ((rd_T53 t132 0).f1) < t129 then (some (t129, t130, t131, t132, 0, false)) else ((some (([] : List (S53)) : List (S53))).bind fun y138 => (if 1 ≤ (t132.length : Int) then ((some (t132.drop 1 : List (S53))).bind fun y141 => (if y138.length + y141.length < 5864062014805 then (some (t129, t130, t131, (y138 ++ y141), (rd_T53 t132 0).f0, true)) else (none))) else (none)))) else (none)))) else (some (t129, t130, t131, t132, 0, false)))) = some (r1, r2, r3, r4, r5, r6) := H
 have A2 := uD A20
 clear A20
 replace H := Option.bind_eq_some_iff.mp H
 obtain ⟨t135, A30, H⟩ := H
 replace H : (if t135 = true then (if t131 = true then (some (t129, t130, t131, t132, 0, false)) else (if (t132.length : Int) = 0 then (some (t129, t130, t131, t132, 0, false)) else (if 0 < (t132.length : Int) then (if ((rd_T53 t132 0).f1) < t129 then (some (t129, t130, t131, t132, 0, false)) else ((some (([] : List (S53)) : List (S53))).bind fun y138 => (if 1 ≤ (t132.length : Int) then ((some (t132.drop 1 : List (S53))).bind fun y141 => (if y138.length + y141.length < 5864062014805 then (some (t129, t130, t131, (y138 ++ y141), (rd_T53 t132 0).f0, true)) else (none))) else (none)))) else (none)))) else (some (t129, t130, t131, t132, 0, false))) = some (r1, r2, r3, r4, r5, r6) := H
 have A3 := uD A30
 clear A30
 by_cases c4 : t135 = true
 ·subst c4
  have H1 : (if t131 = true then (some (t129, t130, t131, t132, 0, false)) else (if (t132.length : Int) = 0 then (some (t129, t130, t131, t132, 0, false)) else (if 0 < (t132.length : Int) then (if ((rd_T53 t132 0).f1) < t129 then (some (t129, t130, t131, t132, 0, false)) else ((some (([] : List (S53)) : List (S53))).bind fun y138 => (if 1 ≤ (t132.length : Int) then ((some (t132.drop 1 : List (S53))).bind fun y141 => (if y138.length + y141.length < 5864062014805 then (some (t129, t130, t131, (y138 ++ y141), (rd_T53 t132 0).f0, true)) else (none))) else (none)))) else (none)))) = some (r1, r2, r3, r4, r5, r6) := by rw [if_pos rfl] at H; first | done | exact H
  clear H
  have H := H1
  clear H1
  by_cases c5 : t131 = true
  ·subst c5
   have H1 : (some (t129, t130, true, t132, 0, false)) = some (r1, r2, r3, r4, r5, r6) := by rw [if_pos rfl] at H; first | done | exact H
   clear H
   have H := H1
   clear H1
   simp only [Option.some.injEq, Prod.mk.injEq] at H
   obtain ⟨rfl, rfl, rfl, rfl, rfl, rfl⟩ := H
   go_enter Try.func26, Try.ntmps26
   try go_wp2_with (first | ((with_reducible refine gate_dst (N := 1) rfl ?_); (try (refine gate_guard (by rfl) ?_; dsimp only)); refine box_event ?hg (N := 1) ?hd (cs := #[.int .i64 a0_0, .int .i64 a0_1, .bool a0_2, .slice A0_3 l0_3.length c0_3]) (t := 29) ?hr ?_; (case hd => rfl); (case hg => rfl); (case hr => first | (go_simp; done) | (go_simp; rfl)); intro gb127 hg w6 hbox hb; have BK127 := uD (hbox); have GW127 := uD ((by rw [hg]; exact (uN (by repeat (first | (with_reducible first | exact HB.out | apply uL | apply uE | apply uK) | exact HB.out))) : w.heap.size ≤ gb127)); have GE127 := uD ((by rw [hg]; exact (uN (by repeat (first | (with_reducible first | exact HB.out | apply uL | apply uE | apply uK) | exact HB.out))) : w.heap.size ≤ gb127)); replace HB := uD (uO (by repeat (first | (with_reducible first | exact HB.out | apply uL | apply uE | apply uK) | exact HB.out)) hb); clear hb hbox hg) | ((with_reducible refine gate_dst (N := 2) rfl ?_); (try (refine gate_guard (by rfl) ?_; dsimp only)); refine box_event ?hg (N := 2) ?hd (cs := #[.int .i64 0, .int .i64 0, .bool false, .slice none 0 0]) (t := 29) ?hr ?_; (case hd => rfl); (case hg => rfl); (case hr => first | (go_simp; done) | (go_simp; rfl)); intro gb128 hg w7 hbox hb; have BK128 := uD (hbox); have GW128 := uD ((by rw [hg]; exact (uN (by repeat (first | (with_reducible first | exact HB.out | apply uL | apply uE | apply uK | refine uM ?_ GE127.out) | exact HB.out))) : w.heap.size ≤ gb128)); have GE128 := uD ((by rw [hg]; exact (uN (by repeat (first | (with_reducible first | exact HB.out | apply uL | apply uE | apply uK | refine uM ?_ GE127.out) | exact HB.out))) : w.heap.size ≤ gb128)); replace HB := uD (uO (by repeat (first | (with_reducible first | exact HB.out | apply uL | apply uE | apply uK | refine uM ?_ GE127.out) | exact HB.out)) hb); have NB127_128 := uD ((by rw [hg]; exact Nat.ne_of_lt (blk_lt (g := gb127) (o := .cells #[.int .i64 a0_0, .int .i64 a0_1, .bool a0_2, .slice A0_3 l0_3.length c0_3] 29 (0, 0)) (by (with_reducible repeat (first | refine uH ?_ _ | refine uJ ?_ | refine uG ?_ _)); exact BK127.out)) : gb127 ≠ gb128)); have NB128_127 := uD ((by rw [hg]; exact Nat.ne_of_gt (blk_lt (g := gb127) (o := .cells #[.int .i64 a0_0, .int .i64 a0_1, .bool a0_2, .slice A0_3 l0_3.length c0_3] 29 (0, 0)) (by (with_reducible repeat (first | refine uH ?_ _ | refine uJ ?_ | refine uG ?_ _)); exact BK127.out)) : gb128 ≠ gb127)); replace BK127 := uD (blk_below (g := gb127) (o := .cells #[.int .i64 a0_0, .int .i64 a0_1, .bool a0_2, .slice A0_3 l0_3.length c0_3] 29 (0, 0)) (by (with_reducible repeat (first | refine uH ?_ _ | refine uJ ?_ | refine uG ?_ _)); exact BK127.out) hb); clear hb hbox hg; have hnb8 := NB127_128.out; have hnc8 := NB128_127.out; have hcz9_0 : w7.cell? ⟨gb127, 0, none⟩ = some (.int .i64 a0_0) := (uF BK127.out 0).trans rfl; have hcz9_1 : w7.cell? ⟨gb127, 1, none⟩ = some (.int .i64 a0_1) := (uF BK127.out 1).trans rfl; have hcz9_2 : w7.cell? ⟨gb127, 2, none⟩ = some (.bool a0_2) := (uF BK127.out 2).trans rfl; have hcz9_3 : w7.cell? ⟨gb127, 3, none⟩ = some (.slice A0_3 l0_3.length c0_3) := (uF BK127.out 3).trans rfl; have hfz9_0 := uI BK127.out 0; have hfz9_1 := uI BK127.out 1; have hfz9_2 := uI BK127.out 2; have hfz9_3 := uI BK127.out 3) | ((with_reducible refine gate_callee (f := 55) rfl ?_); refine goesL_ (some 7) rfl rfl Try.func55 (by kernel_rfl) rfl #[.agg #[.int .i64 a0_0, .int .i64 a0_1, .bool a0_2, .slice A0_3 l0_3.length c0_3]] rfl (by (try simp only [List.map_toArray, List.map_cons, List.map_nil]); first | done | rfl | (simp only [List.length_drop, List.length_take]; rfl)) ?_; (with_reducible refine (spec_l02Fresh.calls a0_0 a0_1 a0_2 _ _ l0_3 t129 t130 true t132 _ ?side1 ?side2 A2.out).mono ?_); (case side1 => repeat (first | exact (Kd.C_below HR0_3.out HB.out) | (with_reducible refine Kd.C_alloc ?_ _) | (with_reducible refine Kd.C_drewN ?_ _) | (with_reducible refine Kd.C_drew ?_))); (case side2 => exact HC0_3.out); rintro e w10 ⟨v133, rfl, ho0, hb⟩; refine ⟨_, rfl, ?_⟩; have HO134 := uD (Kd.R_lower ho0 (uN (by repeat (first | (with_reducible first | exact HB.out | apply uL | apply uE | apply uK | refine uM ?_ GE127.out | refine uM ?_ GE128.out) | exact HB.out)))); replace BK127 := uD (blk_below (g := gb127) (o := .cells #[.int .i64 a0_0, .int .i64 a0_1, .bool a0_2, .slice A0_3 l0_3.length c0_3] 29 (0, 0)) (by (with_reducible repeat (first | refine uH ?_ _ | refine uJ ?_ | refine uG ?_ _)); exact BK127.out) hb); replace BK128 := uD (blk_below (g := gb128) (o := .cells #[.int .i64 0, .int .i64 0, .bool false, .slice none 0 0] 29 (0, 0)) (by (with_reducible repeat (first | refine uH ?_ _ | refine uJ ?_ | refine uG ?_ _)); exact BK128.out) hb); replace HB := uD (uO (by repeat (first | (with_reducible first | exact HB.out | apply uL | apply uE | apply uK | refine uM ?_ GE127.out | refine uM ?_ GE128.out) | exact HB.out)) hb); (try clear hb); (try clear hb2); (try clear hk); (try clear hi); (try clear ho0); have hcz11_0 : w10.cell? ⟨gb127, 0, none⟩ = some (.int .i64 a0_0) := (uF BK127.out 0).trans rfl; have hcz11_1 : w10.cell? ⟨gb127, 1, none⟩ = some (.int .i64 a0_1) := (uF BK127.out 1).trans rfl; have hcz11_2 : w10.cell? ⟨gb127, 2, none⟩ = some (.bool a0_2) := (uF BK127.out 2).trans rfl; have hcz11_3 : w10.cell? ⟨gb127, 3, none⟩ = some (.slice A0_3 l0_3.length c0_3) := (uF BK127.out 3).trans rfl; have hfz11_0 := uI BK127.out 0; have hfz11_1 := uI BK127.out 1; have hfz11_2 := uI BK127.out 2; have hfz11_3 := uI BK127.out 3; obtain ⟨Ao12, co12, eo12⟩ := Kd.R_slice HO134.out; subst eo12))
   have n0_ : Aside0 (Kd.R k53 53 ((((w10.setCell ⟨gb127, 0, none⟩ (.int .i64 t129)).setCell ⟨gb127, 1, none⟩ (.int .i64 t130)).setCell ⟨gb127, 2, none⟩ (.bool true)).setCell ⟨gb127, 3, none⟩ (.slice Ao12 t132.length co12)) w.heap.size (fun _ => True) (.slice Ao12 t132.length co12) t132) := ⟨by (with_reducible repeat (first | apply uU | apply uS | apply uT)); exact uX (uV (p := ⟨gb127, 3, none⟩) (uV (p := ⟨gb127, 2, none⟩) (uV (p := ⟨gb127, 1, none⟩) (uV (p := ⟨gb127, 0, none⟩) (uW HO134.out BK127.out (by decide)) (fun _ hk => hk.2) (.int .i64 t129)) (fun _ hk => hk.2) (.int .i64 t130)) (fun _ hk => hk.2) (.bool true)) (fun _ hk => hk.2) (.slice Ao12 t132.length co12)) (fun _ hk => trivial)⟩
   have n1_ : Aside0 (((((w10.setCell ⟨gb127, 0, none⟩ (.int .i64 t129)).setCell ⟨gb127, 1, none⟩ (.int .i64 t130)).setCell ⟨gb127, 2, none⟩ (.bool true)).setCell ⟨gb127, 3, none⟩ (.slice Ao12 t132.length co12)).heap[gb127]? = some (.cells #[.int .i64 t129, .int .i64 t130, .bool true, .slice Ao12 t132.length co12] 29 (0, 0))) := ⟨by (with_reducible repeat (first | refine uH ?_ _ | refine uJ ?_ | refine uG ?_ _)); refine uP (cs := #[.int .i64 t129, .int .i64 t130, .bool true, .slice A0_3 l0_3.length c0_3]) ?_ 3 _ rfl; (with_reducible repeat (first | refine uH ?_ _ | refine uJ ?_ | refine uG ?_ _)); refine uP (cs := #[.int .i64 t129, .int .i64 t130, .bool a0_2, .slice A0_3 l0_3.length c0_3]) ?_ 2 _ rfl; (with_reducible repeat (first | refine uH ?_ _ | refine uJ ?_ | refine uG ?_ _)); refine uP (cs := #[.int .i64 t129, .int .i64 a0_1, .bool a0_2, .slice A0_3 l0_3.length c0_3]) ?_ 1 _ rfl; (with_reducible repeat (first | refine uH ?_ _ | refine uJ ?_ | refine uG ?_ _)); refine uP (cs := #[.int .i64 a0_0, .int .i64 a0_1, .bool a0_2, .slice A0_3 l0_3.length c0_3]) ?_ 0 _ rfl; (with_reducible repeat (first | refine uH ?_ _ | refine uJ ?_ | refine uG ?_ _)); exact BK127.out⟩
   have n2_ : Aside0 (((((w10.setCell ⟨gb127, 0, none⟩ (.int .i64 t129)).setCell ⟨gb127, 1, none⟩ (.int .i64 t130)).setCell ⟨gb127, 2, none⟩ (.bool true)).setCell ⟨gb127, 3, none⟩ (.slice Ao12 t132.length co12)).heap[gb128]? = some (.cells #[.int .i64 0, .int .i64 0, .bool false, .slice none 0 0] 29 (0, 0))) := ⟨by (with_reducible repeat (first | refine uH ?_ _ | refine uJ ?_ | refine uG ?_ _)); refine uQ ?_ NB128_127.out _; (with_reducible repeat (first | refine uH ?_ _ | refine uJ ?_ | refine uG ?_ _)); refine uQ ?_ NB128_127.out _; (with_reducible repeat (first | refine uH ?_ _ | refine uJ ?_ | refine uG ?_ _)); refine uQ ?_ NB128_127.out _; (with_reducible repeat (first | refine uH ?_ _ | refine uJ ?_ | refine uG ?_ _)); refine uQ ?_ NB128_127.out _; (with_reducible repeat (first | refine uH ?_ _ | refine uJ ?_ | refine uG ?_ _)); exact BK128.out⟩
   have n3_ : Aside0 (Below w.heap.size w ((((w10.setCell ⟨gb127, 0, none⟩ (.int .i64 t129)).setCell ⟨gb127, 1, none⟩ (.int .i64 t130)).setCell ⟨gb127, 2, none⟩ (.bool true)).setCell ⟨gb127, 3, none⟩ (.slice Ao12 t132.length co12))) := ⟨by repeat (first | (with_reducible first | exact HB.out | apply uL | apply uE | apply uK | refine uM ?_ GE127.out | refine uM ?_ GE128.out) | exact HB.out)⟩
   (try clear HO134)
   (try clear BK127)
   (try clear BK128)
   (try clear HB)
   generalize ((((w10.setCell ⟨gb127, 0, none⟩ (.int .i64 t129)).setCell ⟨gb127, 1, none⟩ (.int .i64 t130)).setCell ⟨gb127, 2, none⟩ (.bool true)).setCell ⟨gb127, 3, none⟩ (.slice Ao12 t132.length co12)) = w13 at n0_ n1_ n2_ n3_ ⊢
   have HO134 := n0_
   have BK127 := n1_
   have BK128 := n2_
   have HB := n3_
   clear n0_ n1_ n2_ n3_
   replace HO134 := uD (uT HO134.out)
   replace BK127 := uD (uJ BK127.out)
   replace BK128 := uD (uJ BK128.out)
   replace HB := uD (uK HB.out)
   refine start_ (n := 23) (S := fun w' => w'.cell? ⟨gb127, 0, none⟩ = some (.int .i64 t129) ∧ w'.cell? ⟨gb127, 1, none⟩ = some (.int .i64 t130) ∧ w'.cell? ⟨gb127, 2, none⟩ = some (.bool true) ∧ w'.cell? ⟨gb127, 3, none⟩ = some (.slice Ao12 t132.length co12)) (ds := []) #[F,F,F,F,F,F,F,F,F,F,F,F,F,F,F,F,F,F,F,F,F,F,F] (by kernel_rfl) rfl rfl ⟨(uF BK127.out 0).trans rfl, (uF BK127.out 1).trans rfl, (uF BK127.out 2).trans rfl, (uF BK127.out 3).trans rfl⟩ (fun hHeld => ?_); refine with_tabW spec_Leave.tab2 spec_Leave.bits2 (fun HT_ HW_ => ?_)
   generalize w13.drew = w14 at HO134 BK127 BK128 HB HO134 hHeld ⊢
   refine take_ (i := 0) (N := some 8) (v := ?_) (a' := ?_) #[T,F,F,F,F,F,F,F,F,F,F,F,F,F,F,F,F,F,F,F,F,F,F] rfl rfl (take_ofW HT_.out HW_.out (by kernel_rfl)) (fun _ _ _ h => h) (Or.inl ⟨by rfl, ?_⟩) hHeld ?_ ?_
   rotate_left;(rintro w' ⟨s0, s1, s2, s3⟩;go_simp;with_reducible rfl);rotate_left;(simp only [uc,uA,uB,uC,uZ,ua];rfl)
   refine one_ (i := 1) (N := some 9) #[T,T,F,F,F,F,F,F,F,F,F,F,F,F,F,F,F,F,F,F,F,F,F] rfl rfl (one_of HT_.out (by kernel_rfl)) (by decide) (fun K hK => ?_)
   refine goes_ Try.func16 (by kernel_rfl) rfl #[.agg #[.int .i64 t129, .int .i64 t130, .bool true, .slice Ao12 t132.length co12]] (by rfl) rfl rfl (by (try simp only [List.map_toArray, List.map_cons, List.map_nil]); first | done | rfl | (simp only [List.length_drop, List.length_take]; rfl)) ?_
   with_reducible refine (spec_BeltOk.calls k t129 t130 true _ _ t132 true _ ?side1 ?side2 A3.out).mono ?_
   (case side1 => repeat (first | exact (Kd.R_reads' HO134.out).2.2 | (with_reducible refine Kd.C_alloc ?_ _) | (with_reducible refine Kd.C_drewN ?_ _) | (with_reducible refine Kd.C_drew ?_)))
   (case side2 => exact (Kd.R_reads' HO134.out).2.1)
   rintro e w15 ⟨rfl, hb⟩
   refine ⟨_, rfl, ?_⟩
   replace HO134 := uD (Kd.R_below (by (with_reducible repeat (first | apply uU | apply uS | apply uT)); exact HO134.out) hb)
   replace BK127 := uD (blk_below (g := gb127) (o := .cells #[.int .i64 t129, .int .i64 t130, .bool true, .slice Ao12 t132.length co12] 29 (0, 0)) (by (with_reducible repeat (first | refine uH ?_ _ | refine uJ ?_ | refine uG ?_ _)); exact BK127.out) hb)
   replace BK128 := uD (blk_below (g := gb128) (o := .cells #[.int .i64 0, .int .i64 0, .bool false, .slice none 0 0] 29 (0, 0)) (by (with_reducible repeat (first | refine uH ?_ _ | refine uJ ?_ | refine uG ?_ _)); exact BK128.out) hb)
   replace HB := uD (uO (by repeat (first | (with_reducible first | exact HB.out | apply uL | apply uE | apply uK | refine uM ?_ GE127.out | refine uM ?_ GE128.out) | exact HB.out)) hb)
   (try clear hb)
   (try clear hb2)
   (try clear hk)
   (try clear hi)
   refine hK.out _ _ ⟨(uF BK127.out 0).trans rfl, (uF BK127.out 1).trans rfl, (uF BK127.out 2).trans rfl, (uF BK127.out 3).trans rfl⟩ (fun hHeld => ?_)
   clear hK K
   refine norm_ (a' := ?_) ?_ ?_
   rotate_left
   ·show uc _ (some 9) _ = _
    simp only [uc, uA, uB, uC, uZ, ua]
    rfl
   refine ub (i := 2) (N := some 10) (v := ?_) (a' := ?_) #[T,T,T,F,F,F,F,F,F,F,F,F,F,F,F,F,F,F,F,F,F,F,F] rfl rfl (uY HT_.out (by kernel_rfl)) (fun _ _ _ h => h) (Or.inl ⟨by rfl, ?_⟩) ?_ ?_
   rotate_left;(intro w';go_simp;with_reducible rfl);rotate_left;(simp only [uc,uA,uB,uC,uZ,ua];rfl)
   refine ub (i := 3) (N := some 11) (v := ?_) (a' := ?_) #[T,T,T,T,F,F,F,F,F,F,F,F,F,F,F,F,F,F,F,F,F,F,F] rfl rfl (uY HT_.out (by kernel_rfl)) (fun _ _ _ h => h) (Or.inl ⟨by rfl, ?_⟩) ?_ ?_
   rotate_left;(intro w';go_simp;with_reducible rfl);rotate_left;(simp only [uc,uA,uB,uC,uZ,ua];rfl)
   refine ub (i := 4) (N := some 12) (v := ?_) (a' := ?_) #[T,T,T,T,T,F,F,F,F,F,F,F,F,F,F,F,F,F,F,F,F,F,F] rfl rfl (uY HT_.out (by kernel_rfl)) (fun _ _ _ h => h) (Or.inl ⟨by rfl, ?_⟩) ?_ ?_
   rotate_left;(intro w';go_simp;with_reducible rfl);rotate_left;(simp only [uc,uA,uB,uC,uZ,ua];rfl)
   refine take_ (i := 5) (N := some 13) (v := ?_) (a' := ?_) #[T,T,T,T,T,T,F,F,F,F,F,F,F,F,F,F,F,F,F,F,F,F,F] rfl rfl (take_ofW HT_.out HW_.out (by kernel_rfl)) (fun _ _ _ h => h) (Or.inl ⟨by rfl, ?_⟩) hHeld ?_ ?_
   rotate_left;(rintro w' ⟨s0, s1, s2, s3⟩;go_simp;with_reducible rfl);rotate_left;(simp only [uc,uA,uB,uC,uZ,ua];rfl)
   refine ub (i := 6) (N := some 14) (v := ?_) (a' := ?_) #[T,T,T,T,T,T,T,F,F,F,F,F,F,F,F,F,F,F,F,F,F,F,F] rfl rfl (uY HT_.out (by kernel_rfl)) (fun _ _ _ h => h) (Or.inl ⟨by rfl, ?_⟩) ?_ ?_
   rotate_left;(intro w';go_simp;with_reducible rfl);rotate_left;(simp only [uc,uA,uB,uC,uZ,ua];rfl)
   refine ub (i := 7) (N := some 15) (v := ?_) (a' := ?_) #[T,T,T,T,T,T,T,T,F,F,F,F,F,F,F,F,F,F,F,F,F,F,F] rfl rfl (uY HT_.out (by kernel_rfl)) (fun _ _ _ h => h) (Or.inl ⟨by rfl, ?_⟩) ?_ ?_
   rotate_left;(intro w';go_simp;with_reducible rfl);rotate_left;(simp only [uc,uA,uB,uC,uZ,ua];rfl)
   refine ub (i := 8) (N := some 16) (v := undef) (a' := ?_) #[T,T,T,T,T,T,T,T,T,F,F,F,F,F,F,F,F,F,F,F,F,F,F] rfl rfl (uY HT_.out (by kernel_rfl)) (fun _ _ _ h => h) (Or.inr ⟨by rfl, rfl⟩) ?_ ?_
   rotate_left
   ·simp only [uc, uA, uB, uC, uZ, ua]
    rfl
   refine ub (i := 9) (N := some 17) (v := undef) (a' := ?_) #[T,T,T,T,T,T,T,T,T,T,F,F,F,F,F,F,F,F,F,F,F,F,F] rfl rfl (uY HT_.out (by kernel_rfl)) (fun _ _ _ h => h) (Or.inr ⟨by rfl, rfl⟩) ?_ ?_
   rotate_left
   ·simp only [uc, uA, uB, uC, uZ, ua]
    rfl
   refine ub (i := 10) (N := some 18) (v := undef) (a' := ?_) #[T,T,T,T,T,T,T,T,T,T,T,F,F,F,F,F,F,F,F,F,F,F,F] rfl rfl (uY HT_.out (by kernel_rfl)) (fun _ _ _ h => h) (Or.inr ⟨by rfl, rfl⟩) ?_ ?_
   rotate_left
   ·simp only [uc, uA, uB, uC, uZ, ua]
    rfl
   refine ub (i := 11) (N := some 19) (v := undef) (a' := ?_) #[T,T,T,T,T,T,T,T,T,T,T,T,F,F,F,F,F,F,F,F,F,F,F] rfl rfl (uY HT_.out (by kernel_rfl)) (fun _ _ _ h => h) (Or.inr ⟨by rfl, rfl⟩) ?_ ?_
   rotate_left
   ·simp only [uc, uA, uB, uC, uZ, ua]
    rfl
   refine ub (i := 12) (N := some 20) (v := ?_) (a' := ?_) #[T,T,T,T,T,T,T,T,T,T,T,T,T,F,F,F,F,F,F,F,F,F,F] rfl rfl (uY HT_.out (by kernel_rfl)) (fun _ _ _ h => h) (Or.inl ⟨by rfl, ?_⟩) ?_ ?_
   rotate_left;(intro w';go_simp;with_reducible rfl);rotate_left;(simp only [uc,uA,uB,uC,uZ,ua];rfl)
   refine ub (i := 13) (N := some 21) (v := ?_) (a' := ?_) #[T,T,T,T,T,T,T,T,T,T,T,T,T,T,F,F,F,F,F,F,F,F,F] rfl rfl (uY HT_.out (by kernel_rfl)) (fun _ _ _ h => h) (Or.inl ⟨by rfl, ?_⟩) ?_ ?_
   rotate_left;(intro w';go_simp;with_reducible rfl);rotate_left;(simp only [uc,uA,uB,uC,uZ,ua];rfl)
   refine ub (i := 14) (N := some 22) (v := undef) (a' := ?_) #[T,T,T,T,T,T,T,T,T,T,T,T,T,T,T,F,F,F,F,F,F,F,F] rfl rfl (uY HT_.out (by kernel_rfl)) (fun _ _ _ h => h) (Or.inr ⟨by rfl, rfl⟩) ?_ ?_
   rotate_left
   ·simp only [uc, uA, uB, uC, uZ, ua]
    rfl
   refine ub (i := 15) (N := some 23) (v := undef) (a' := ?_) #[T,T,T,T,T,T,T,T,T,T,T,T,T,T,T,T,F,F,F,F,F,F,F] rfl rfl (uY HT_.out (by kernel_rfl)) (fun _ _ _ h => h) (Or.inr ⟨by rfl, rfl⟩) ?_ ?_
   rotate_left
   ·simp only [uc, uA, uB, uC, uZ, ua]
    rfl
   refine ub (i := 16) (N := some 24) (v := undef) (a' := ?_) #[T,T,T,T,T,T,T,T,T,T,T,T,T,T,T,T,T,F,F,F,F,F,F] rfl rfl (uY HT_.out (by kernel_rfl)) (fun _ _ _ h => h) (Or.inr ⟨by rfl, rfl⟩) ?_ ?_
   rotate_left
   ·simp only [uc, uA, uB, uC, uZ, ua]
    rfl
   refine ub (i := 17) (N := some 25) (v := undef) (a' := ?_) #[T,T,T,T,T,T,T,T,T,T,T,T,T,T,T,T,T,T,F,F,F,F,F] rfl rfl (uY HT_.out (by kernel_rfl)) (fun _ _ _ h => h) (Or.inr ⟨by rfl, rfl⟩) ?_ ?_
   rotate_left
   ·simp only [uc, uA, uB, uC, uZ, ua]
    rfl
   refine ub (i := 18) (N := some 26) (v := undef) (a' := ?_) #[T,T,T,T,T,T,T,T,T,T,T,T,T,T,T,T,T,T,T,F,F,F,F] rfl rfl (uY HT_.out (by kernel_rfl)) (fun _ _ _ h => h) (Or.inr ⟨by rfl, rfl⟩) ?_ ?_
   rotate_left
   ·simp only [uc, uA, uB, uC, uZ, ua]
    rfl
   refine ub (i := 19) (N := some 27) (v := undef) (a' := ?_) #[T,T,T,T,T,T,T,T,T,T,T,T,T,T,T,T,T,T,T,T,F,F,F] rfl rfl (uY HT_.out (by kernel_rfl)) (fun _ _ _ h => h) (Or.inr ⟨by rfl, rfl⟩) ?_ ?_
   rotate_left
   ·simp only [uc, uA, uB, uC, uZ, ua]
    rfl
   refine ub (i := 20) (N := some 28) (v := undef) (a' := ?_) #[T,T,T,T,T,T,T,T,T,T,T,T,T,T,T,T,T,T,T,T,T,F,F] rfl rfl (uY HT_.out (by kernel_rfl)) (fun _ _ _ h => h) (Or.inr ⟨by rfl, rfl⟩) ?_ ?_
   rotate_left
   ·simp only [uc, uA, uB, uC, uZ, ua]
    rfl
   refine ub (i := 21) (N := some 29) (v := undef) (a' := ?_) #[T,T,T,T,T,T,T,T,T,T,T,T,T,T,T,T,T,T,T,T,T,T,F] rfl rfl (uY HT_.out (by kernel_rfl)) (fun _ _ _ h => h) (Or.inr ⟨by rfl, rfl⟩) ?_ ?_
   rotate_left
   ·simp only [uc, uA, uB, uC, uZ, ua]
    rfl
   refine ub (i := 22) (N := some 30) (v := ?_) (a' := ?_) #[T,T,T,T,T,T,T,T,T,T,T,T,T,T,T,T,T,T,T,T,T,T,T] rfl rfl (uY HT_.out (by kernel_rfl)) (fun _ _ _ h => h) (Or.inl ⟨by rfl, ?_⟩) ?_ ?_
   rotate_left;(intro w';go_simp;with_reducible rfl);rotate_left;(simp only [uc,uA,uB,uC,uZ,ua];rfl)
   refine done_ (done_of HT_.out (by kernel_rfl)) ?_
   have hcz16_0 : w15.cell? ⟨gb127, 0, none⟩ = some (.int .i64 t129) := (uF BK127.out 0).trans rfl
   have hcz16_1 : w15.cell? ⟨gb127, 1, none⟩ = some (.int .i64 t130) := (uF BK127.out 1).trans rfl
   have hcz16_2 : w15.cell? ⟨gb127, 2, none⟩ = some (.bool true) := (uF BK127.out 2).trans rfl
   have hcz16_3 : w15.cell? ⟨gb127, 3, none⟩ = some (.slice Ao12 t132.length co12) := (uF BK127.out 3).trans rfl
   have hfz16_0 := uI BK127.out 0
   have hfz16_1 := uI BK127.out 1
   have hfz16_2 := uI BK127.out 2
   have hfz16_3 := uI BK127.out 3
   have hcz17_0 : w15.cell? ⟨gb128, 0, none⟩ = some (.int .i64 0) := (uF BK128.out 0).trans rfl
   have hcz17_1 : w15.cell? ⟨gb128, 1, none⟩ = some (.int .i64 0) := (uF BK128.out 1).trans rfl
   have hcz17_2 : w15.cell? ⟨gb128, 2, none⟩ = some (.bool false) := (uF BK128.out 2).trans rfl
   have hcz17_3 : w15.cell? ⟨gb128, 3, none⟩ = some (.slice none 0 0) := (uF BK128.out 3).trans rfl
   have hfz17_0 := uI BK128.out 0
   have hfz17_1 := uI BK128.out 1
   have hfz17_2 := uI BK128.out 2
   have hfz17_3 := uI BK128.out 3
   try go_wp2
   refine bodyPost_ret (results_ctt rfl _ _ gb128 29 #[.int .i64 t129, .int .i64 t130, .bool true, .slice Ao12 t132.length co12] (0, 0) _ rfl (by (with_reducible repeat (first | refine uH ?_ _ | refine uJ ?_ | refine uG ?_ _)); refine uP (cs := #[.int .i64 t129, .int .i64 t130, .bool true, .slice none 0 0]) ?_ 3 _ rfl; (with_reducible repeat (first | refine uH ?_ _ | refine uJ ?_ | refine uG ?_ _)); refine uP (cs := #[.int .i64 t129, .int .i64 t130, .bool false, .slice none 0 0]) ?_ 2 _ rfl; (with_reducible repeat (first | refine uH ?_ _ | refine uJ ?_ | refine uG ?_ _)); refine uP (cs := #[.int .i64 t129, .int .i64 0, .bool false, .slice none 0 0]) ?_ 1 _ rfl; (with_reducible repeat (first | refine uH ?_ _ | refine uJ ?_ | refine uG ?_ _)); refine uP (cs := #[.int .i64 0, .int .i64 0, .bool false, .slice none 0 0]) ?_ 0 _ rfl; (with_reducible repeat (first | refine uH ?_ _ | refine uJ ?_ | refine uG ?_ _)); exact BK128.out) Try.underlying29 rfl (by kernel_rfl)) rfl ?_
   exact ⟨_, by first | rfl | (simp [errW_none, errW_some] <;> rfl) | (simp [*, errW_none, errW_some] <;> rfl), by (with_reducible repeat (first | apply uU | apply uS | apply uT)); exact uX (uV (p := ⟨gb128, 3, none⟩) (uV (p := ⟨gb128, 2, none⟩) (uV (p := ⟨gb128, 1, none⟩) (uV (p := ⟨gb128, 0, none⟩) (uW HO134.out BK128.out (by decide)) (fun _ hk => hk.2) (.int .i64 t129)) (fun _ hk => hk.2) (.int .i64 t130)) (fun _ hk => hk.2) (.bool true)) (fun _ hk => hk.2) (.slice Ao12 t132.length co12)) (fun _ hk => trivial), by repeat (first | (with_reducible first | exact HB.out | apply uL | apply uE | apply uK | refine uM ?_ GE127.out | refine uM ?_ GE128.out) | exact HB.out)⟩
  ·replace c5 := Bool.eq_false_iff.mpr c5
   subst c5
   have H1 : (if (t132.length : Int) = 0 then (some (t129, t130, false, t132, 0, false)) else (if 0 < (t132.length : Int) then (if ((rd_T53 t132 0).f1) < t129 then (some (t129, t130, false, t132, 0, false)) else ((some (([] : List (S53)) : List (S53))).bind fun y138 => (if 1 ≤ (t132.length : Int) then ((some (t132.drop 1 : List (S53))).bind fun y141 => (if y138.length + y141.length < 5864062014805 then (some (t129, t130, false, (y138 ++ y141), (rd_T53 t132 0).f0, true)) else (none))) else (none)))) else (none))) = some (r1, r2, r3, r4, r5, r6) := by rw [if_neg (show ¬ (false = true) by decide)] at H; first | done | exact H
   clear H
   have H := H1
   clear H1
   by_cases c18 : (t132.length : Int) = 0
   ·rw [if_pos c18] at H
    have c18b0 : ((t132.length : Int) == 0) = true := beq_iff_eq.mpr c18
    have c18b1 : ((t132.length : Int) != 0) = false := bne_eq_false_iff_eq.mpr c18
    clear c18
    simp only [Option.some.injEq, Prod.mk.injEq] at H
    obtain ⟨rfl, rfl, rfl, rfl, rfl, rfl⟩ := H
    go_enter Try.func26, Try.ntmps26
    try go_wp2_with (first | ((with_reducible refine gate_dst (N := 1) rfl ?_); (try (refine gate_guard (by rfl) ?_; dsimp only)); refine box_event ?hg (N := 1) ?hd (cs := #[.int .i64 a0_0, .int .i64 a0_1, .bool a0_2, .slice A0_3 l0_3.length c0_3]) (t := 29) ?hr ?_; (case hd => rfl); (case hg => rfl); (case hr => first | (go_simp; done) | (go_simp; rfl)); intro gb127 hg w19 hbox hb; have BK127 := uD (hbox); have GW127 := uD ((by rw [hg]; exact (uN (by repeat (first | (with_reducible first | exact HB.out | apply uL | apply uE | apply uK) | exact HB.out))) : w.heap.size ≤ gb127)); have GE127 := uD ((by rw [hg]; exact (uN (by repeat (first | (with_reducible first | exact HB.out | apply uL | apply uE | apply uK) | exact HB.out))) : w.heap.size ≤ gb127)); replace HB := uD (uO (by repeat (first | (with_reducible first | exact HB.out | apply uL | apply uE | apply uK) | exact HB.out)) hb); clear hb hbox hg) | ((with_reducible refine gate_dst (N := 2) rfl ?_); (try (refine gate_guard (by rfl) ?_; dsimp only)); refine box_event ?hg (N := 2) ?hd (cs := #[.int .i64 0, .int .i64 0, .bool false, .slice none 0 0]) (t := 29) ?hr ?_; (case hd => rfl); (case hg => rfl); (case hr => first | (go_simp; done) | (go_simp; rfl)); intro gb128 hg w20 hbox hb; have BK128 := uD (hbox); have GW128 := uD ((by rw [hg]; exact (uN (by repeat (first | (with_reducible first | exact HB.out | apply uL | apply uE | apply uK | refine uM ?_ GE127.out) | exact HB.out))) : w.heap.size ≤ gb128)); have GE128 := uD ((by rw [hg]; exact (uN (by repeat (first | (with_reducible first | exact HB.out | apply uL | apply uE | apply uK | refine uM ?_ GE127.out) | exact HB.out))) : w.heap.size ≤ gb128)); replace HB := uD (uO (by repeat (first | (with_reducible first | exact HB.out | apply uL | apply uE | apply uK | refine uM ?_ GE127.out) | exact HB.out)) hb); have NB127_128 := uD ((by rw [hg]; exact Nat.ne_of_lt (blk_lt (g := gb127) (o := .cells #[.int .i64 a0_0, .int .i64 a0_1, .bool a0_2, .slice A0_3 l0_3.length c0_3] 29 (0, 0)) (by (with_reducible repeat (first | refine uH ?_ _ | refine uJ ?_ | refine uG ?_ _)); exact BK127.out)) : gb127 ≠ gb128)); have NB128_127 := uD ((by rw [hg]; exact Nat.ne_of_gt (blk_lt (g := gb127) (o := .cells #[.int .i64 a0_0, .int .i64 a0_1, .bool a0_2, .slice A0_3 l0_3.length c0_3] 29 (0, 0)) (by (with_reducible repeat (first | refine uH ?_ _ | refine uJ ?_ | refine uG ?_ _)); exact BK127.out)) : gb128 ≠ gb127)); replace BK127 := uD (blk_below (g := gb127) (o := .cells #[.int .i64 a0_0, .int .i64 a0_1, .bool a0_2, .slice A0_3 l0_3.length c0_3] 29 (0, 0)) (by (with_reducible repeat (first | refine uH ?_ _ | refine uJ ?_ | refine uG ?_ _)); exact BK127.out) hb); clear hb hbox hg; have hnb21 := NB127_128.out; have hnc21 := NB128_127.out; have hcz22_0 : w20.cell? ⟨gb127, 0, none⟩ = some (.int .i64 a0_0) := (uF BK127.out 0).trans rfl; have hcz22_1 : w20.cell? ⟨gb127, 1, none⟩ = some (.int .i64 a0_1) := (uF BK127.out 1).trans rfl; have hcz22_2 : w20.cell? ⟨gb127, 2, none⟩ = some (.bool a0_2) := (uF BK127.out 2).trans rfl; have hcz22_3 : w20.cell? ⟨gb127, 3, none⟩ = some (.slice A0_3 l0_3.length c0_3) := (uF BK127.out 3).trans rfl; have hfz22_0 := uI BK127.out 0; have hfz22_1 := uI BK127.out 1; have hfz22_2 := uI BK127.out 2; have hfz22_3 := uI BK127.out 3) | ((with_reducible refine gate_callee (f := 55) rfl ?_); refine goesL_ (some 7) rfl rfl Try.func55 (by kernel_rfl) rfl #[.agg #[.int .i64 a0_0, .int .i64 a0_1, .bool a0_2, .slice A0_3 l0_3.length c0_3]] rfl (by (try simp only [List.map_toArray, List.map_cons, List.map_nil]); first | done | rfl | (simp only [List.length_drop, List.length_take]; rfl)) ?_; (with_reducible refine (spec_l02Fresh.calls a0_0 a0_1 a0_2 _ _ l0_3 t129 t130 false t132 _ ?side1 ?side2 A2.out).mono ?_); (case side1 => repeat (first | exact (Kd.C_below HR0_3.out HB.out) | (with_reducible refine Kd.C_alloc ?_ _) | (with_reducible refine Kd.C_drewN ?_ _) | (with_reducible refine Kd.C_drew ?_))); (case side2 => exact HC0_3.out); rintro e w23 ⟨v133, rfl, ho0, hb⟩; refine ⟨_, rfl, ?_⟩; have HO134 := uD (Kd.R_lower ho0 (uN (by repeat (first | (with_reducible first | exact HB.out | apply uL | apply uE | apply uK | refine uM ?_ GE127.out | refine uM ?_ GE128.out) | exact HB.out)))); replace BK127 := uD (blk_below (g := gb127) (o := .cells #[.int .i64 a0_0, .int .i64 a0_1, .bool a0_2, .slice A0_3 l0_3.length c0_3] 29 (0, 0)) (by (with_reducible repeat (first | refine uH ?_ _ | refine uJ ?_ | refine uG ?_ _)); exact BK127.out) hb); replace BK128 := uD (blk_below (g := gb128) (o := .cells #[.int .i64 0, .int .i64 0, .bool false, .slice none 0 0] 29 (0, 0)) (by (with_reducible repeat (first | refine uH ?_ _ | refine uJ ?_ | refine uG ?_ _)); exact BK128.out) hb); replace HB := uD (uO (by repeat (first | (with_reducible first | exact HB.out | apply uL | apply uE | apply uK | refine uM ?_ GE127.out | refine uM ?_ GE128.out) | exact HB.out)) hb); (try clear hb); (try clear hb2); (try clear hk); (try clear hi); (try clear ho0); have hcz24_0 : w23.cell? ⟨gb127, 0, none⟩ = some (.int .i64 a0_0) := (uF BK127.out 0).trans rfl; have hcz24_1 : w23.cell? ⟨gb127, 1, none⟩ = some (.int .i64 a0_1) := (uF BK127.out 1).trans rfl; have hcz24_2 : w23.cell? ⟨gb127, 2, none⟩ = some (.bool a0_2) := (uF BK127.out 2).trans rfl; have hcz24_3 : w23.cell? ⟨gb127, 3, none⟩ = some (.slice A0_3 l0_3.length c0_3) := (uF BK127.out 3).trans rfl; have hfz24_0 := uI BK127.out 0; have hfz24_1 := uI BK127.out 1; have hfz24_2 := uI BK127.out 2; have hfz24_3 := uI BK127.out 3; obtain ⟨Ao25, co25, eo25⟩ := Kd.R_slice HO134.out; subst eo25))
    have n0_ : Aside0 (Kd.R k53 53 ((((w23.setCell ⟨gb127, 0, none⟩ (.int .i64 t129)).setCell ⟨gb127, 1, none⟩ (.int .i64 t130)).setCell ⟨gb127, 2, none⟩ (.bool false)).setCell ⟨gb127, 3, none⟩ (.slice Ao25 t132.length co25)) w.heap.size (fun _ => True) (.slice Ao25 t132.length co25) t132) := ⟨by (with_reducible repeat (first | apply uU | apply uS | apply uT)); exact uX (uV (p := ⟨gb127, 3, none⟩) (uV (p := ⟨gb127, 2, none⟩) (uV (p := ⟨gb127, 1, none⟩) (uV (p := ⟨gb127, 0, none⟩) (uW HO134.out BK127.out (by decide)) (fun _ hk => hk.2) (.int .i64 t129)) (fun _ hk => hk.2) (.int .i64 t130)) (fun _ hk => hk.2) (.bool false)) (fun _ hk => hk.2) (.slice Ao25 t132.length co25)) (fun _ hk => trivial)⟩
    have n1_ : Aside0 (((((w23.setCell ⟨gb127, 0, none⟩ (.int .i64 t129)).setCell ⟨gb127, 1, none⟩ (.int .i64 t130)).setCell ⟨gb127, 2, none⟩ (.bool false)).setCell ⟨gb127, 3, none⟩ (.slice Ao25 t132.length co25)).heap[gb127]? = some (.cells #[.int .i64 t129, .int .i64 t130, .bool false, .slice Ao25 t132.length co25] 29 (0, 0))) := ⟨by (with_reducible repeat (first | refine uH ?_ _ | refine uJ ?_ | refine uG ?_ _)); refine uP (cs := #[.int .i64 t129, .int .i64 t130, .bool false, .slice A0_3 l0_3.length c0_3]) ?_ 3 _ rfl; (with_reducible repeat (first | refine uH ?_ _ | refine uJ ?_ | refine uG ?_ _)); refine uP (cs := #[.int .i64 t129, .int .i64 t130, .bool a0_2, .slice A0_3 l0_3.length c0_3]) ?_ 2 _ rfl; (with_reducible repeat (first | refine uH ?_ _ | refine uJ ?_ | refine uG ?_ _)); refine uP (cs := #[.int .i64 t129, .int .i64 a0_1, .bool a0_2, .slice A0_3 l0_3.length c0_3]) ?_ 1 _ rfl; (with_reducible repeat (first | refine uH ?_ _ | refine uJ ?_ | refine uG ?_ _)); refine uP (cs := #[.int .i64 a0_0, .int .i64 a0_1, .bool a0_2, .slice A0_3 l0_3.length c0_3]) ?_ 0 _ rfl; (with_reducible repeat (first | refine uH ?_ _ | refine uJ ?_ | refine uG ?_ _)); exact BK127.out⟩
    have n2_ : Aside0 (((((w23.setCell ⟨gb127, 0, none⟩ (.int .i64 t129)).setCell ⟨gb127, 1, none⟩ (.int .i64 t130)).setCell ⟨gb127, 2, none⟩ (.bool false)).setCell ⟨gb127, 3, none⟩ (.slice Ao25 t132.length co25)).heap[gb128]? = some (.cells #[.int .i64 0, .int .i64 0, .bool false, .slice none 0 0] 29 (0, 0))) := ⟨by (with_reducible repeat (first | refine uH ?_ _ | refine uJ ?_ | refine uG ?_ _)); refine uQ ?_ NB128_127.out _; (with_reducible repeat (first | refine uH ?_ _ | refine uJ ?_ | refine uG ?_ _)); refine uQ ?_ NB128_127.out _; (with_reducible repeat (first | refine uH ?_ _ | refine uJ ?_ | refine uG ?_ _)); refine uQ ?_ NB128_127.out _; (with_reducible repeat (first | refine uH ?_ _ | refine uJ ?_ | refine uG ?_ _)); refine uQ ?_ NB128_127.out _; (with_reducible repeat (first | refine uH ?_ _ | refine uJ ?_ | refine uG ?_ _)); exact BK128.out⟩
    have n3_ : Aside0 (Below w.heap.size w ((((w23.setCell ⟨gb127, 0, none⟩ (.int .i64 t129)).setCell ⟨gb127, 1, none⟩ (.int .i64 t130)).setCell ⟨gb127, 2, none⟩ (.bool false)).setCell ⟨gb127, 3, none⟩ (.slice Ao25 t132.length co25))) := ⟨by repeat (first | (with_reducible first | exact HB.out | apply uL | apply uE | apply uK | refine uM ?_ GE127.out | refine uM ?_ GE128.out) | exact HB.out)⟩
    (try clear HO134)
    (try clear BK127)
    (try clear BK128)
    (try clear HB)
    generalize ((((w23.setCell ⟨gb127, 0, none⟩ (.int .i64 t129)).setCell ⟨gb127, 1, none⟩ (.int .i64 t130)).setCell ⟨gb127, 2, none⟩ (.bool false)).setCell ⟨gb127, 3, none⟩ (.slice Ao25 t132.length co25)) = w26 at n0_ n1_ n2_ n3_ ⊢
    have HO134 := n0_
    have BK127 := n1_
    have BK128 := n2_
    have HB := n3_
    clear n0_ n1_ n2_ n3_
    replace HO134 := uD (uT HO134.out)
    replace BK127 := uD (uJ BK127.out)
    replace BK128 := uD (uJ BK128.out)
    replace HB := uD (uK HB.out)
    refine start_ (n := 23) (S := fun w' => w'.cell? ⟨gb127, 0, none⟩ = some (.int .i64 t129) ∧ w'.cell? ⟨gb127, 1, none⟩ = some (.int .i64 t130) ∧ w'.cell? ⟨gb127, 2, none⟩ = some (.bool false) ∧ w'.cell? ⟨gb127, 3, none⟩ = some (.slice Ao25 t132.length co25)) (ds := []) #[F,F,F,F,F,F,F,F,F,F,F,F,F,F,F,F,F,F,F,F,F,F,F] (by kernel_rfl) rfl rfl ⟨(uF BK127.out 0).trans rfl, (uF BK127.out 1).trans rfl, (uF BK127.out 2).trans rfl, (uF BK127.out 3).trans rfl⟩ (fun hHeld => ?_); refine with_tabW spec_Leave.tab2 spec_Leave.bits2 (fun HT_ HW_ => ?_)
    generalize w26.drew = w27 at HO134 BK127 BK128 HB HO134 hHeld ⊢
    refine take_ (i := 0) (N := some 8) (v := ?_) (a' := ?_) #[T,F,F,F,F,F,F,F,F,F,F,F,F,F,F,F,F,F,F,F,F,F,F] rfl rfl (take_ofW HT_.out HW_.out (by kernel_rfl)) (fun _ _ _ h => h) (Or.inl ⟨by rfl, ?_⟩) hHeld ?_ ?_
    rotate_left;(rintro w' ⟨s0, s1, s2, s3⟩;go_simp;with_reducible rfl);rotate_left;(simp only [uc,uA,uB,uC,uZ,ua];rfl)
    refine one_ (i := 1) (N := some 9) #[T,T,F,F,F,F,F,F,F,F,F,F,F,F,F,F,F,F,F,F,F,F,F] rfl rfl (one_of HT_.out (by kernel_rfl)) (by decide) (fun K hK => ?_)
    refine goes_ Try.func16 (by kernel_rfl) rfl #[.agg #[.int .i64 t129, .int .i64 t130, .bool false, .slice Ao25 t132.length co25]] (by rfl) rfl rfl (by (try simp only [List.map_toArray, List.map_cons, List.map_nil]); first | done | rfl | (simp only [List.length_drop, List.length_take]; rfl)) ?_
    with_reducible refine (spec_BeltOk.calls k t129 t130 false _ _ t132 true _ ?side1 ?side2 A3.out).mono ?_
    (case side1 => repeat (first | exact (Kd.R_reads' HO134.out).2.2 | (with_reducible refine Kd.C_alloc ?_ _) | (with_reducible refine Kd.C_drewN ?_ _) | (with_reducible refine Kd.C_drew ?_)))
    (case side2 => exact (Kd.R_reads' HO134.out).2.1)
    rintro e w28 ⟨rfl, hb⟩
    refine ⟨_, rfl, ?_⟩
    replace HO134 := uD (Kd.R_below (by (with_reducible repeat (first | apply uU | apply uS | apply uT)); exact HO134.out) hb)
    replace BK127 := uD (blk_below (g := gb127) (o := .cells #[.int .i64 t129, .int .i64 t130, .bool false, .slice Ao25 t132.length co25] 29 (0, 0)) (by (with_reducible repeat (first | refine uH ?_ _ | refine uJ ?_ | refine uG ?_ _)); exact BK127.out) hb)
    replace BK128 := uD (blk_below (g := gb128) (o := .cells #[.int .i64 0, .int .i64 0, .bool false, .slice none 0 0] 29 (0, 0)) (by (with_reducible repeat (first | refine uH ?_ _ | refine uJ ?_ | refine uG ?_ _)); exact BK128.out) hb)
    replace HB := uD (uO (by repeat (first | (with_reducible first | exact HB.out | apply uL | apply uE | apply uK | refine uM ?_ GE127.out | refine uM ?_ GE128.out) | exact HB.out)) hb)
    (try clear hb)
    (try clear hb2)
    (try clear hk)
    (try clear hi)
    refine hK.out _ _ ⟨(uF BK127.out 0).trans rfl, (uF BK127.out 1).trans rfl, (uF BK127.out 2).trans rfl, (uF BK127.out 3).trans rfl⟩ (fun hHeld => ?_)
    clear hK K
    refine norm_ (a' := ?_) ?_ ?_
    rotate_left
    ·show uc _ (some 9) _ = _
     simp only [uc, uA, uB, uC, uZ, ua]
     rfl
    refine ub (i := 2) (N := some 10) (v := ?_) (a' := ?_) #[T,T,T,F,F,F,F,F,F,F,F,F,F,F,F,F,F,F,F,F,F,F,F] rfl rfl (uY HT_.out (by kernel_rfl)) (fun _ _ _ h => h) (Or.inl ⟨by rfl, ?_⟩) ?_ ?_
    rotate_left;(intro w';go_simp;with_reducible rfl);rotate_left;(simp only [uc,uA,uB,uC,uZ,ua];rfl)
    refine ub (i := 3) (N := some 11) (v := ?_) (a' := ?_) #[T,T,T,T,F,F,F,F,F,F,F,F,F,F,F,F,F,F,F,F,F,F,F] rfl rfl (uY HT_.out (by kernel_rfl)) (fun _ _ _ h => h) (Or.inl ⟨by rfl, ?_⟩) ?_ ?_
    rotate_left;(intro w';go_simp;with_reducible rfl);rotate_left;(simp only [uc,uA,uB,uC,uZ,ua];rfl)
    refine ub (i := 4) (N := some 12) (v := ?_) (a' := ?_) #[T,T,T,T,T,F,F,F,F,F,F,F,F,F,F,F,F,F,F,F,F,F,F] rfl rfl (uY HT_.out (by kernel_rfl)) (fun _ _ _ h => h) (Or.inl ⟨by rfl, ?_⟩) ?_ ?_
    rotate_left;(intro w';go_simp;with_reducible rfl);rotate_left;(simp only [uc,uA,uB,uC,uZ,ua];rfl)
    refine take_ (i := 5) (N := some 13) (v := ?_) (a' := ?_) #[T,T,T,T,T,T,F,F,F,F,F,F,F,F,F,F,F,F,F,F,F,F,F] rfl rfl (take_ofW HT_.out HW_.out (by kernel_rfl)) (fun _ _ _ h => h) (Or.inl ⟨by rfl, ?_⟩) hHeld ?_ ?_
    rotate_left;(rintro w' ⟨s0, s1, s2, s3⟩;go_simp;with_reducible rfl);rotate_left;(simp only [uc,uA,uB,uC,uZ,ua];rfl)
    refine ub (i := 6) (N := some 14) (v := ?_) (a' := ?_) #[T,T,T,T,T,T,T,F,F,F,F,F,F,F,F,F,F,F,F,F,F,F,F] rfl rfl (uY HT_.out (by kernel_rfl)) (fun _ _ _ h => h) (Or.inl ⟨by rfl, ?_⟩) ?_ ?_
    rotate_left;(intro w';go_simp;with_reducible rfl);rotate_left;(simp only [uc,uA,uB,uC,uZ,ua];rfl)
    refine ub (i := 7) (N := some 15) (v := ?_) (a' := ?_) #[T,T,T,T,T,T,T,T,F,F,F,F,F,F,F,F,F,F,F,F,F,F,F] rfl rfl (uY HT_.out (by kernel_rfl)) (fun _ _ _ h => h) (Or.inl ⟨by rfl, ?_⟩) ?_ ?_
    rotate_left;(intro w';go_simp;with_reducible rfl);rotate_left;(simp only [uc,uA,uB,uC,uZ,ua];rfl)
    refine ub (i := 8) (N := some 16) (v := ?_) (a' := ?_) #[T,T,T,T,T,T,T,T,T,F,F,F,F,F,F,F,F,F,F,F,F,F,F] rfl rfl (uY HT_.out (by kernel_rfl)) (fun _ _ _ h => h) (Or.inl ⟨by rfl, ?_⟩) ?_ ?_
    rotate_left;(intro w';go_simp;with_reducible rfl);rotate_left;(simp only [uc,uA,uB,uC,uZ,ua];rfl)
    refine take_ (i := 9) (N := some 17) (v := ?_) (a' := ?_) #[T,T,T,T,T,T,T,T,T,T,F,F,F,F,F,F,F,F,F,F,F,F,F] rfl rfl (take_ofW HT_.out HW_.out (by kernel_rfl)) (fun _ _ _ h => h) (Or.inl ⟨by rfl, ?_⟩) hHeld ?_ ?_
    rotate_left;(rintro w' ⟨s0, s1, s2, s3⟩;go_simp;with_reducible rfl);rotate_left;(simp only [uc,uA,uB,uC,uZ,ua];rfl)
    refine ub (i := 10) (N := some 18) (v := ?_) (a' := ?_) #[T,T,T,T,T,T,T,T,T,T,T,F,F,F,F,F,F,F,F,F,F,F,F] rfl rfl (uY HT_.out (by kernel_rfl)) (fun _ _ _ h => h) (Or.inl ⟨by rfl, ?_⟩) ?_ ?_
    rotate_left;(intro w';go_simp;with_reducible rfl);rotate_left;(simp only [uc,uA,uB,uC,uZ,ua];rfl)
    refine ub (i := 11) (N := some 19) (v := ?_) (a' := ?_) #[T,T,T,T,T,T,T,T,T,T,T,T,F,F,F,F,F,F,F,F,F,F,F] rfl rfl (uY HT_.out (by kernel_rfl)) (fun _ _ _ h => h) (Or.inl ⟨by rfl, ?_⟩) ?_ ?_
    rotate_left;(intro w';go_simp;with_reducible rfl);rotate_left;(simp only [uc,uA,uB,uC,uZ,ua];rfl)
    refine ub (i := 12) (N := some 20) (v := ?_) (a' := ?_) #[T,T,T,T,T,T,T,T,T,T,T,T,T,F,F,F,F,F,F,F,F,F,F] rfl rfl (uY HT_.out (by kernel_rfl)) (fun _ _ _ h => h) (Or.inl ⟨by rfl, ?_⟩) ?_ ?_
    rotate_left;(intro w';go_simp;with_reducible rfl);rotate_left;(simp only [uc,uA,uB,uC,uZ,ua];rfl)
    refine ub (i := 13) (N := some 21) (v := ?_) (a' := ?_) #[T,T,T,T,T,T,T,T,T,T,T,T,T,T,F,F,F,F,F,F,F,F,F] rfl rfl (uY HT_.out (by kernel_rfl)) (fun _ _ _ h => h) (Or.inl ⟨by rfl, ?_⟩) ?_ ?_
    rotate_left;(intro w';go_simp;with_reducible rfl);rotate_left;(simp only [uc,uA,uB,uC,uZ,ua];rfl)
    refine ub (i := 14) (N := some 22) (v := undef) (a' := ?_) #[T,T,T,T,T,T,T,T,T,T,T,T,T,T,T,F,F,F,F,F,F,F,F] rfl rfl (uY HT_.out (by kernel_rfl)) (fun _ _ _ h => h) (Or.inr ⟨by rfl, rfl⟩) ?_ ?_
    rotate_left
    ·simp only [uc, uA, uB, uC, uZ, ua]
     rfl
    refine ub (i := 15) (N := some 23) (v := undef) (a' := ?_) #[T,T,T,T,T,T,T,T,T,T,T,T,T,T,T,T,F,F,F,F,F,F,F] rfl rfl (uY HT_.out (by kernel_rfl)) (fun _ _ _ h => h) (Or.inr ⟨by rfl, rfl⟩) ?_ ?_
    rotate_left
    ·simp only [uc, uA, uB, uC, uZ, ua]
     rfl
    refine ub (i := 16) (N := some 24) (v := undef) (a' := ?_) #[T,T,T,T,T,T,T,T,T,T,T,T,T,T,T,T,T,F,F,F,F,F,F] rfl rfl (uY HT_.out (by kernel_rfl)) (fun _ _ _ h => h) (Or.inr ⟨by rfl, rfl⟩) ?_ ?_
    rotate_left
    ·simp only [uc, uA, uB, uC, uZ, ua]
     rfl
    refine ub (i := 17) (N := some 25) (v := undef) (a' := ?_) #[T,T,T,T,T,T,T,T,T,T,T,T,T,T,T,T,T,T,F,F,F,F,F] rfl rfl (uY HT_.out (by kernel_rfl)) (fun _ _ _ h => h) (Or.inr ⟨by rfl, rfl⟩) ?_ ?_
    rotate_left
    ·simp only [uc, uA, uB, uC, uZ, ua]
     rfl
    refine ub (i := 18) (N := some 26) (v := undef) (a' := ?_) #[T,T,T,T,T,T,T,T,T,T,T,T,T,T,T,T,T,T,T,F,F,F,F] rfl rfl (uY HT_.out (by kernel_rfl)) (fun _ _ _ h => h) (Or.inr ⟨by rfl, rfl⟩) ?_ ?_
    rotate_left
    ·simp only [uc, uA, uB, uC, uZ, ua]
     rfl
    refine ub (i := 19) (N := some 27) (v := undef) (a' := ?_) #[T,T,T,T,T,T,T,T,T,T,T,T,T,T,T,T,T,T,T,T,F,F,F] rfl rfl (uY HT_.out (by kernel_rfl)) (fun _ _ _ h => h) (Or.inr ⟨by rfl, rfl⟩) ?_ ?_
    rotate_left
    ·simp only [uc, uA, uB, uC, uZ, ua]
     rfl
    refine ub (i := 20) (N := some 28) (v := undef) (a' := ?_) #[T,T,T,T,T,T,T,T,T,T,T,T,T,T,T,T,T,T,T,T,T,F,F] rfl rfl (uY HT_.out (by kernel_rfl)) (fun _ _ _ h => h) (Or.inr ⟨by rfl, rfl⟩) ?_ ?_
    rotate_left
    ·simp only [uc, uA, uB, uC, uZ, ua]
     rfl
    refine ub (i := 21) (N := some 29) (v := undef) (a' := ?_) #[T,T,T,T,T,T,T,T,T,T,T,T,T,T,T,T,T,T,T,T,T,T,F] rfl rfl (uY HT_.out (by kernel_rfl)) (fun _ _ _ h => h) (Or.inr ⟨by rfl, rfl⟩) ?_ ?_
    rotate_left
    ·simp only [uc, uA, uB, uC, uZ, ua]
     rfl
    refine ub (i := 22) (N := some 30) (v := ?_) (a' := ?_) #[T,T,T,T,T,T,T,T,T,T,T,T,T,T,T,T,T,T,T,T,T,T,T] rfl rfl (uY HT_.out (by kernel_rfl)) (fun _ _ _ h => h) (Or.inl ⟨by rfl, ?_⟩) ?_ ?_
    rotate_left;(intro w';go_simp;with_reducible rfl);rotate_left;(simp only [uc,uA,uB,uC,uZ,ua];rfl)
    refine done_ (done_of HT_.out (by kernel_rfl)) ?_
    have hcz29_0 : w28.cell? ⟨gb127, 0, none⟩ = some (.int .i64 t129) := (uF BK127.out 0).trans rfl
    have hcz29_1 : w28.cell? ⟨gb127, 1, none⟩ = some (.int .i64 t130) := (uF BK127.out 1).trans rfl
    have hcz29_2 : w28.cell? ⟨gb127, 2, none⟩ = some (.bool false) := (uF BK127.out 2).trans rfl
    have hcz29_3 : w28.cell? ⟨gb127, 3, none⟩ = some (.slice Ao25 t132.length co25) := (uF BK127.out 3).trans rfl
    have hfz29_0 := uI BK127.out 0
    have hfz29_1 := uI BK127.out 1
    have hfz29_2 := uI BK127.out 2
    have hfz29_3 := uI BK127.out 3
    have hcz30_0 : w28.cell? ⟨gb128, 0, none⟩ = some (.int .i64 0) := (uF BK128.out 0).trans rfl
    have hcz30_1 : w28.cell? ⟨gb128, 1, none⟩ = some (.int .i64 0) := (uF BK128.out 1).trans rfl
    have hcz30_2 : w28.cell? ⟨gb128, 2, none⟩ = some (.bool false) := (uF BK128.out 2).trans rfl
    have hcz30_3 : w28.cell? ⟨gb128, 3, none⟩ = some (.slice none 0 0) := (uF BK128.out 3).trans rfl
    have hfz30_0 := uI BK128.out 0
    have hfz30_1 := uI BK128.out 1
    have hfz30_2 := uI BK128.out 2
    have hfz30_3 := uI BK128.out 3
    try go_wp2
    refine bodyPost_ret (results_ctt rfl _ _ gb128 29 #[.int .i64 t129, .int .i64 t130, .bool false, .slice Ao25 t132.length co25] (0, 0) _ rfl (by (with_reducible repeat (first | refine uH ?_ _ | refine uJ ?_ | refine uG ?_ _)); refine uP (cs := #[.int .i64 t129, .int .i64 t130, .bool false, .slice none 0 0]) ?_ 3 _ rfl; (with_reducible repeat (first | refine uH ?_ _ | refine uJ ?_ | refine uG ?_ _)); refine uP (cs := #[.int .i64 t129, .int .i64 t130, .bool false, .slice none 0 0]) ?_ 2 _ rfl; (with_reducible repeat (first | refine uH ?_ _ | refine uJ ?_ | refine uG ?_ _)); refine uP (cs := #[.int .i64 t129, .int .i64 0, .bool false, .slice none 0 0]) ?_ 1 _ rfl; (with_reducible repeat (first | refine uH ?_ _ | refine uJ ?_ | refine uG ?_ _)); refine uP (cs := #[.int .i64 0, .int .i64 0, .bool false, .slice none 0 0]) ?_ 0 _ rfl; (with_reducible repeat (first | refine uH ?_ _ | refine uJ ?_ | refine uG ?_ _)); exact BK128.out) Try.underlying29 rfl (by kernel_rfl)) rfl ?_
    exact ⟨_, by first | rfl | (simp [errW_none, errW_some] <;> rfl) | (simp [*, errW_none, errW_some] <;> rfl), by (with_reducible repeat (first | apply uU | apply uS | apply uT)); exact uX (uV (p := ⟨gb128, 3, none⟩) (uV (p := ⟨gb128, 2, none⟩) (uV (p := ⟨gb128, 1, none⟩) (uV (p := ⟨gb128, 0, none⟩) (uW HO134.out BK128.out (by decide)) (fun _ hk => hk.2) (.int .i64 t129)) (fun _ hk => hk.2) (.int .i64 t130)) (fun _ hk => hk.2) (.bool false)) (fun _ hk => hk.2) (.slice Ao25 t132.length co25)) (fun _ hk => trivial), by repeat (first | (with_reducible first | exact HB.out | apply uL | apply uE | apply uK | refine uM ?_ GE127.out | refine uM ?_ GE128.out) | exact HB.out)⟩
   ·rw [if_neg c18] at H
    have c18b0 : ((t132.length : Int) == 0) = false := beq_eq_false_iff_ne.mpr c18
    have c18b1 : ((t132.length : Int) != 0) = true := bne_iff_ne.mpr c18
    have c18b2 : ¬ (t132 = []) := fun h_ => c18 (by rw [h_]; rfl)
    by_cases c31 : 0 < (t132.length : Int)
    ·rw [if_pos c31] at H
     have c31b0 : decide (0 < (t132.length : Int)) = true := decide_eq_true c31
     have c31b1 : decide (0 < t132.length) = true := decide_eq_true (by omega)
     clear c31
     by_cases c32 : ((rd_T53 t132 0).f1) < t129
     ·rw [if_pos c32] at H
      have c32b0 : decide (((rd_T53 t132 0).f1) < t129) = true := decide_eq_true c32
      clear c32
      simp only [Option.some.injEq, Prod.mk.injEq] at H
      obtain ⟨rfl, rfl, rfl, rfl, rfl, rfl⟩ := H
      go_enter Try.func26, Try.ntmps26
      try go_wp2_with (first | ((with_reducible refine gate_dst (N := 1) rfl ?_); (try (refine gate_guard (by rfl) ?_; dsimp only)); refine box_event ?hg (N := 1) ?hd (cs := #[.int .i64 a0_0, .int .i64 a0_1, .bool a0_2, .slice A0_3 l0_3.length c0_3]) (t := 29) ?hr ?_; (case hd => rfl); (case hg => rfl); (case hr => first | (go_simp; done) | (go_simp; rfl)); intro gb127 hg w33 hbox hb; have BK127 := uD (hbox); have GW127 := uD ((by rw [hg]; exact (uN (by repeat (first | (with_reducible first | exact HB.out | apply uL | apply uE | apply uK) | exact HB.out))) : w.heap.size ≤ gb127)); have GE127 := uD ((by rw [hg]; exact (uN (by repeat (first | (with_reducible first | exact HB.out | apply uL | apply uE | apply uK) | exact HB.out))) : w.heap.size ≤ gb127)); replace HB := uD (uO (by repeat (first | (with_reducible first | exact HB.out | apply uL | apply uE | apply uK) | exact HB.out)) hb); clear hb hbox hg) | ((with_reducible refine gate_dst (N := 2) rfl ?_); (try (refine gate_guard (by rfl) ?_; dsimp only)); refine box_event ?hg (N := 2) ?hd (cs := #[.int .i64 0, .int .i64 0, .bool false, .slice none 0 0]) (t := 29) ?hr ?_; (case hd => rfl); (case hg => rfl); (case hr => first | (go_simp; done) | (go_simp; rfl)); intro gb128 hg w34 hbox hb; have BK128 := uD (hbox); have GW128 := uD ((by rw [hg]; exact (uN (by repeat (first | (with_reducible first | exact HB.out | apply uL | apply uE | apply uK | refine uM ?_ GE127.out) | exact HB.out))) : w.heap.size ≤ gb128)); have GE128 := uD ((by rw [hg]; exact (uN (by repeat (first | (with_reducible first | exact HB.out | apply uL | apply uE | apply uK | refine uM ?_ GE127.out) | exact HB.out))) : w.heap.size ≤ gb128)); replace HB := uD (uO (by repeat (first | (with_reducible first | exact HB.out | apply uL | apply uE | apply uK | refine uM ?_ GE127.out) | exact HB.out)) hb); have NB127_128 := uD ((by rw [hg]; exact Nat.ne_of_lt (blk_lt (g := gb127) (o := .cells #[.int .i64 a0_0, .int .i64 a0_1, .bool a0_2, .slice A0_3 l0_3.length c0_3] 29 (0, 0)) (by (with_reducible repeat (first | refine uH ?_ _ | refine uJ ?_ | refine uG ?_ _)); exact BK127.out)) : gb127 ≠ gb128)); have NB128_127 := uD ((by rw [hg]; exact Nat.ne_of_gt (blk_lt (g := gb127) (o := .cells #[.int .i64 a0_0, .int .i64 a0_1, .bool a0_2, .slice A0_3 l0_3.length c0_3] 29 (0, 0)) (by (with_reducible repeat (first | refine uH ?_ _ | refine uJ ?_ | refine uG ?_ _)); exact BK127.out)) : gb128 ≠ gb127)); replace BK127 := uD (blk_below (g := gb127) (o := .cells #[.int .i64 a0_0, .int .i64 a0_1, .bool a0_2, .slice A0_3 l0_3.length c0_3] 29 (0, 0)) (by (with_reducible repeat (first | refine uH ?_ _ | refine uJ ?_ | refine uG ?_ _)); exact BK127.out) hb); clear hb hbox hg; have hnb35 := NB127_128.out; have hnc35 := NB128_127.out; have hcz36_0 : w34.cell? ⟨gb127, 0, none⟩ = some (.int .i64 a0_0) := (uF BK127.out 0).trans rfl; have hcz36_1 : w34.cell? ⟨gb127, 1, none⟩ = some (.int .i64 a0_1) := (uF BK127.out 1).trans rfl; have hcz36_2 : w34.cell? ⟨gb127, 2, none⟩ = some (.bool a0_2) := (uF BK127.out 2).trans rfl; have hcz36_3 : w34.cell? ⟨gb127, 3, none⟩ = some (.slice A0_3 l0_3.length c0_3) := (uF BK127.out 3).trans rfl; have hfz36_0 := uI BK127.out 0; have hfz36_1 := uI BK127.out 1; have hfz36_2 := uI BK127.out 2; have hfz36_3 := uI BK127.out 3) | ((with_reducible refine gate_callee (f := 55) rfl ?_); refine goesL_ (some 7) rfl rfl Try.func55 (by kernel_rfl) rfl #[.agg #[.int .i64 a0_0, .int .i64 a0_1, .bool a0_2, .slice A0_3 l0_3.length c0_3]] rfl (by (try simp only [List.map_toArray, List.map_cons, List.map_nil]); first | done | rfl | (simp only [List.length_drop, List.length_take]; rfl)) ?_; (with_reducible refine (spec_l02Fresh.calls a0_0 a0_1 a0_2 _ _ l0_3 t129 t130 false t132 _ ?side1 ?side2 A2.out).mono ?_); (case side1 => repeat (first | exact (Kd.C_below HR0_3.out HB.out) | (with_reducible refine Kd.C_alloc ?_ _) | (with_reducible refine Kd.C_drewN ?_ _) | (with_reducible refine Kd.C_drew ?_))); (case side2 => exact HC0_3.out); rintro e w37 ⟨v133, rfl, ho0, hb⟩; refine ⟨_, rfl, ?_⟩; have HO134 := uD (Kd.R_lower ho0 (uN (by repeat (first | (with_reducible first | exact HB.out | apply uL | apply uE | apply uK | refine uM ?_ GE127.out | refine uM ?_ GE128.out) | exact HB.out)))); replace BK127 := uD (blk_below (g := gb127) (o := .cells #[.int .i64 a0_0, .int .i64 a0_1, .bool a0_2, .slice A0_3 l0_3.length c0_3] 29 (0, 0)) (by (with_reducible repeat (first | refine uH ?_ _ | refine uJ ?_ | refine uG ?_ _)); exact BK127.out) hb); replace BK128 := uD (blk_below (g := gb128) (o := .cells #[.int .i64 0, .int .i64 0, .bool false, .slice none 0 0] 29 (0, 0)) (by (with_reducible repeat (first | refine uH ?_ _ | refine uJ ?_ | refine uG ?_ _)); exact BK128.out) hb); replace HB := uD (uO (by repeat (first | (with_reducible first | exact HB.out | apply uL | apply uE | apply uK | refine uM ?_ GE127.out | refine uM ?_ GE128.out) | exact HB.out)) hb); (try clear hb); (try clear hb2); (try clear hk); (try clear hi); (try clear ho0); have hcz38_0 : w37.cell? ⟨gb127, 0, none⟩ = some (.int .i64 a0_0) := (uF BK127.out 0).trans rfl; have hcz38_1 : w37.cell? ⟨gb127, 1, none⟩ = some (.int .i64 a0_1) := (uF BK127.out 1).trans rfl; have hcz38_2 : w37.cell? ⟨gb127, 2, none⟩ = some (.bool a0_2) := (uF BK127.out 2).trans rfl; have hcz38_3 : w37.cell? ⟨gb127, 3, none⟩ = some (.slice A0_3 l0_3.length c0_3) := (uF BK127.out 3).trans rfl; have hfz38_0 := uI BK127.out 0; have hfz38_1 := uI BK127.out 1; have hfz38_2 := uI BK127.out 2; have hfz38_3 := uI BK127.out 3; obtain ⟨Ao39, co39, eo39⟩ := Kd.R_slice HO134.out; subst eo39))
      have n0_ : Aside0 (Kd.R k53 53 ((((w37.setCell ⟨gb127, 0, none⟩ (.int .i64 t129)).setCell ⟨gb127, 1, none⟩ (.int .i64 t130)).setCell ⟨gb127, 2, none⟩ (.bool false)).setCell ⟨gb127, 3, none⟩ (.slice Ao39 t132.length co39)) w.heap.size (fun _ => True) (.slice Ao39 t132.length co39) t132) := ⟨by (with_reducible repeat (first | apply uU | apply uS | apply uT)); exact uX (uV (p := ⟨gb127, 3, none⟩) (uV (p := ⟨gb127, 2, none⟩) (uV (p := ⟨gb127, 1, none⟩) (uV (p := ⟨gb127, 0, none⟩) (uW HO134.out BK127.out (by decide)) (fun _ hk => hk.2) (.int .i64 t129)) (fun _ hk => hk.2) (.int .i64 t130)) (fun _ hk => hk.2) (.bool false)) (fun _ hk => hk.2) (.slice Ao39 t132.length co39)) (fun _ hk => trivial)⟩
      have n1_ : Aside0 (((((w37.setCell ⟨gb127, 0, none⟩ (.int .i64 t129)).setCell ⟨gb127, 1, none⟩ (.int .i64 t130)).setCell ⟨gb127, 2, none⟩ (.bool false)).setCell ⟨gb127, 3, none⟩ (.slice Ao39 t132.length co39)).heap[gb127]? = some (.cells #[.int .i64 t129, .int .i64 t130, .bool false, .slice Ao39 t132.length co39] 29 (0, 0))) := ⟨by (with_reducible repeat (first | refine uH ?_ _ | refine uJ ?_ | refine uG ?_ _)); refine uP (cs := #[.int .i64 t129, .int .i64 t130, .bool false, .slice A0_3 l0_3.length c0_3]) ?_ 3 _ rfl; (with_reducible repeat (first | refine uH ?_ _ | refine uJ ?_ | refine uG ?_ _)); refine uP (cs := #[.int .i64 t129, .int .i64 t130, .bool a0_2, .slice A0_3 l0_3.length c0_3]) ?_ 2 _ rfl; (with_reducible repeat (first | refine uH ?_ _ | refine uJ ?_ | refine uG ?_ _)); refine uP (cs := #[.int .i64 t129, .int .i64 a0_1, .bool a0_2, .slice A0_3 l0_3.length c0_3]) ?_ 1 _ rfl; (with_reducible repeat (first | refine uH ?_ _ | refine uJ ?_ | refine uG ?_ _)); refine uP (cs := #[.int .i64 a0_0, .int .i64 a0_1, .bool a0_2, .slice A0_3 l0_3.length c0_3]) ?_ 0 _ rfl; (with_reducible repeat (first | refine uH ?_ _ | refine uJ ?_ | refine uG ?_ _)); exact BK127.out⟩
      have n2_ : Aside0 (((((w37.setCell ⟨gb127, 0, none⟩ (.int .i64 t129)).setCell ⟨gb127, 1, none⟩ (.int .i64 t130)).setCell ⟨gb127, 2, none⟩ (.bool false)).setCell ⟨gb127, 3, none⟩ (.slice Ao39 t132.length co39)).heap[gb128]? = some (.cells #[.int .i64 0, .int .i64 0, .bool false, .slice none 0 0] 29 (0, 0))) := ⟨by (with_reducible repeat (first | refine uH ?_ _ | refine uJ ?_ | refine uG ?_ _)); refine uQ ?_ NB128_127.out _; (with_reducible repeat (first | refine uH ?_ _ | refine uJ ?_ | refine uG ?_ _)); refine uQ ?_ NB128_127.out _; (with_reducible repeat (first | refine uH ?_ _ | refine uJ ?_ | refine uG ?_ _)); refine uQ ?_ NB128_127.out _; (with_reducible repeat (first | refine uH ?_ _ | refine uJ ?_ | refine uG ?_ _)); refine uQ ?_ NB128_127.out _; (with_reducible repeat (first | refine uH ?_ _ | refine uJ ?_ | refine uG ?_ _)); exact BK128.out⟩
      have n3_ : Aside0 (Below w.heap.size w ((((w37.setCell ⟨gb127, 0, none⟩ (.int .i64 t129)).setCell ⟨gb127, 1, none⟩ (.int .i64 t130)).setCell ⟨gb127, 2, none⟩ (.bool false)).setCell ⟨gb127, 3, none⟩ (.slice Ao39 t132.length co39))) := ⟨by repeat (first | (with_reducible first | exact HB.out | apply uL | apply uE | apply uK | refine uM ?_ GE127.out | refine uM ?_ GE128.out) | exact HB.out)⟩
      (try clear HO134)
      (try clear BK127)
      (try clear BK128)
      (try clear HB)
      generalize ((((w37.setCell ⟨gb127, 0, none⟩ (.int .i64 t129)).setCell ⟨gb127, 1, none⟩ (.int .i64 t130)).setCell ⟨gb127, 2, none⟩ (.bool false)).setCell ⟨gb127, 3, none⟩ (.slice Ao39 t132.length co39)) = w40 at n0_ n1_ n2_ n3_ ⊢
      have HO134 := n0_
      have BK127 := n1_
      have BK128 := n2_
      have HB := n3_
      clear n0_ n1_ n2_ n3_
      replace HO134 := uD (uT HO134.out)
      replace BK127 := uD (uJ BK127.out)
      replace BK128 := uD (uJ BK128.out)
      replace HB := uD (uK HB.out)
      have p136 : 0 ≤ (0 : Int) := (by omega)
      have q136 : 0 < (t132.length : Int) := of_decide_eq_true (by first | (with_reducible assumption) | assumption)
      obtain ⟨ad136, e136, hx136_0, hx136_1, hx136_2⟩ := at_T53 (Kd.R_reads' HO134.out).2.2 0 p136 q136
      cases e136
      have qi136 : (0 < t132.length) = True := eq_true (by omega)
      (try rw [show ((0 : Int)).toNat = 0 from rfl] at hx136_0)
      (try rw [show 0 * 3 = 0 from rfl] at hx136_0)
      (try rw [Addr.add_zero'] at hx136_0)
      (try rw [show ((0 : Int)).toNat = 0 from rfl] at hx136_1)
      (try rw [show 0 * 3 = 0 from rfl] at hx136_1)
      (try rw [Addr.add_zero'] at hx136_1)
      (try rw [show ((0 : Int)).toNat = 0 from rfl] at hx136_2)
      (try rw [show 0 * 3 = 0 from rfl] at hx136_2)
      (try rw [Addr.add_zero'] at hx136_2)
      replace p136 := eq_true p136
      replace q136 := eq_true q136
      refine start_ (n := 23) (S := fun w' => w'.cell? ⟨gb127, 0, none⟩ = some (.int .i64 t129) ∧ w'.cell? ⟨gb127, 1, none⟩ = some (.int .i64 t130) ∧ w'.cell? ⟨gb127, 2, none⟩ = some (.bool false) ∧ w'.cell? ⟨gb127, 3, none⟩ = some (.slice (some ad136) t132.length co39) ∧ w'.cell? ad136 = some (.int .i64 ((rd_T53 t132 0).f0)) ∧ w'.cell? ⟨ad136.block, ad136.off + 1, none⟩ = some (.int .i64 ((rd_T53 t132 0).f1)) ∧ w'.cell? ⟨ad136.block, ad136.off + 2, none⟩ = some (.int .i64 ((rd_T53 t132 0).f2))) (ds := []) #[F,F,F,F,F,F,F,F,F,F,F,F,F,F,F,F,F,F,F,F,F,F,F] (by kernel_rfl) rfl rfl ⟨(uF BK127.out 0).trans rfl, (uF BK127.out 1).trans rfl, (uF BK127.out 2).trans rfl, (uF BK127.out 3).trans rfl, hx136_0, hx136_1, hx136_2⟩ (fun hHeld => ?_); refine with_tabW spec_Leave.tab2 spec_Leave.bits2 (fun HT_ HW_ => ?_)
      generalize w40.drew = w41 at HO134 BK127 BK128 HB HO134 hx136_0 hx136_1 hx136_2 hHeld ⊢
      refine take_ (i := 0) (N := some 8) (v := ?_) (a' := ?_) #[T,F,F,F,F,F,F,F,F,F,F,F,F,F,F,F,F,F,F,F,F,F,F] rfl rfl (take_ofW HT_.out HW_.out (by kernel_rfl)) (fun _ _ _ h => h) (Or.inl ⟨by rfl, ?_⟩) hHeld ?_ ?_
      rotate_left;(rintro w' ⟨s0, s1, s2, s3, s4, s5, s6⟩;go_simp;with_reducible rfl);rotate_left;(simp only [uc,uA,uB,uC,uZ,ua];rfl)
      refine one_ (i := 1) (N := some 9) #[T,T,F,F,F,F,F,F,F,F,F,F,F,F,F,F,F,F,F,F,F,F,F] rfl rfl (one_of HT_.out (by kernel_rfl)) (by decide) (fun K hK => ?_)
      refine goes_ Try.func16 (by kernel_rfl) rfl #[.agg #[.int .i64 t129, .int .i64 t130, .bool false, .slice (some ad136) t132.length co39]] (by rfl) rfl rfl (by (try simp only [List.map_toArray, List.map_cons, List.map_nil]); first | done | rfl | (simp only [List.length_drop, List.length_take]; rfl)) ?_
      with_reducible refine (spec_BeltOk.calls k t129 t130 false _ _ t132 true _ ?side1 ?side2 A3.out).mono ?_
      (case side1 => repeat (first | exact (Kd.R_reads' HO134.out).2.2 | (with_reducible refine Kd.C_alloc ?_ _) | (with_reducible refine Kd.C_drewN ?_ _) | (with_reducible refine Kd.C_drew ?_)))
      (case side2 => exact (Kd.R_reads' HO134.out).2.1)
      rintro e w42 ⟨rfl, hb⟩
      have HS4_ := (hb.cell (World.block_lt_of_cell? _ _ (hHeld.2.2.2.2.1))).trans (hHeld.2.2.2.2.1)
      have HS5_ := (hb.cell (World.block_lt_of_cell? _ _ (hHeld.2.2.2.2.2.1))).trans (hHeld.2.2.2.2.2.1)
      have HS6_ := (hb.cell (World.block_lt_of_cell? _ _ (hHeld.2.2.2.2.2.2))).trans (hHeld.2.2.2.2.2.2)
      refine ⟨_, rfl, ?_⟩
      replace HO134 := uD (Kd.R_below (by (with_reducible repeat (first | apply uU | apply uS | apply uT)); exact HO134.out) hb)
      replace BK127 := uD (blk_below (g := gb127) (o := .cells #[.int .i64 t129, .int .i64 t130, .bool false, .slice (some ad136) t132.length co39] 29 (0, 0)) (by (with_reducible repeat (first | refine uH ?_ _ | refine uJ ?_ | refine uG ?_ _)); exact BK127.out) hb)
      replace BK128 := uD (blk_below (g := gb128) (o := .cells #[.int .i64 0, .int .i64 0, .bool false, .slice none 0 0] 29 (0, 0)) (by (with_reducible repeat (first | refine uH ?_ _ | refine uJ ?_ | refine uG ?_ _)); exact BK128.out) hb)
      replace HB := uD (uO (by repeat (first | (with_reducible first | exact HB.out | apply uL | apply uE | apply uK | refine uM ?_ GE127.out | refine uM ?_ GE128.out) | exact HB.out)) hb)
      (try clear hb)
      (try clear hb2)
      (try clear hk)
      (try clear hi)
      refine hK.out _ _ ⟨(uF BK127.out 0).trans rfl, (uF BK127.out 1).trans rfl, (uF BK127.out 2).trans rfl, (uF BK127.out 3).trans rfl, HS4_, HS5_, HS6_⟩ (fun hHeld => ?_)
      clear hK K
      refine norm_ (a' := ?_) ?_ ?_
      rotate_left
      ·show uc _ (some 9) _ = _
       simp only [uc, uA, uB, uC, uZ, ua]
       rfl
      refine ub (i := 2) (N := some 10) (v := ?_) (a' := ?_) #[T,T,T,F,F,F,F,F,F,F,F,F,F,F,F,F,F,F,F,F,F,F,F] rfl rfl (uY HT_.out (by kernel_rfl)) (fun _ _ _ h => h) (Or.inl ⟨by rfl, ?_⟩) ?_ ?_
      rotate_left;(intro w';go_simp;with_reducible rfl);rotate_left;(simp only [uc,uA,uB,uC,uZ,ua];rfl)
      refine ub (i := 3) (N := some 11) (v := ?_) (a' := ?_) #[T,T,T,T,F,F,F,F,F,F,F,F,F,F,F,F,F,F,F,F,F,F,F] rfl rfl (uY HT_.out (by kernel_rfl)) (fun _ _ _ h => h) (Or.inl ⟨by rfl, ?_⟩) ?_ ?_
      rotate_left;(intro w';go_simp;with_reducible rfl);rotate_left;(simp only [uc,uA,uB,uC,uZ,ua];rfl)
      refine ub (i := 4) (N := some 12) (v := ?_) (a' := ?_) #[T,T,T,T,T,F,F,F,F,F,F,F,F,F,F,F,F,F,F,F,F,F,F] rfl rfl (uY HT_.out (by kernel_rfl)) (fun _ _ _ h => h) (Or.inl ⟨by rfl, ?_⟩) ?_ ?_
      rotate_left;(intro w';go_simp;with_reducible rfl);rotate_left;(simp only [uc,uA,uB,uC,uZ,ua];rfl)
      refine take_ (i := 5) (N := some 13) (v := ?_) (a' := ?_) #[T,T,T,T,T,T,F,F,F,F,F,F,F,F,F,F,F,F,F,F,F,F,F] rfl rfl (take_ofW HT_.out HW_.out (by kernel_rfl)) (fun _ _ _ h => h) (Or.inl ⟨by rfl, ?_⟩) hHeld ?_ ?_
      rotate_left;(rintro w' ⟨s0, s1, s2, s3, s4, s5, s6⟩;go_simp;with_reducible rfl);rotate_left;(simp only [uc,uA,uB,uC,uZ,ua];rfl)
      refine ub (i := 6) (N := some 14) (v := ?_) (a' := ?_) #[T,T,T,T,T,T,T,F,F,F,F,F,F,F,F,F,F,F,F,F,F,F,F] rfl rfl (uY HT_.out (by kernel_rfl)) (fun _ _ _ h => h) (Or.inl ⟨by rfl, ?_⟩) ?_ ?_
      rotate_left;(intro w';go_simp;with_reducible rfl);rotate_left;(simp only [uc,uA,uB,uC,uZ,ua];rfl)
      refine ub (i := 7) (N := some 15) (v := ?_) (a' := ?_) #[T,T,T,T,T,T,T,T,F,F,F,F,F,F,F,F,F,F,F,F,F,F,F] rfl rfl (uY HT_.out (by kernel_rfl)) (fun _ _ _ h => h) (Or.inl ⟨by rfl, ?_⟩) ?_ ?_
      rotate_left;(intro w';go_simp;with_reducible rfl);rotate_left;(simp only [uc,uA,uB,uC,uZ,ua];rfl)
      refine ub (i := 8) (N := some 16) (v := ?_) (a' := ?_) #[T,T,T,T,T,T,T,T,T,F,F,F,F,F,F,F,F,F,F,F,F,F,F] rfl rfl (uY HT_.out (by kernel_rfl)) (fun _ _ _ h => h) (Or.inl ⟨by rfl, ?_⟩) ?_ ?_
      rotate_left;(intro w';go_simp;with_reducible rfl);rotate_left;(simp only [uc,uA,uB,uC,uZ,ua];rfl)
      refine take_ (i := 9) (N := some 17) (v := ?_) (a' := ?_) #[T,T,T,T,T,T,T,T,T,T,F,F,F,F,F,F,F,F,F,F,F,F,F] rfl rfl (take_ofW HT_.out HW_.out (by kernel_rfl)) (fun _ _ _ h => h) (Or.inl ⟨by rfl, ?_⟩) hHeld ?_ ?_
      rotate_left;(rintro w' ⟨s0, s1, s2, s3, s4, s5, s6⟩;go_simp;with_reducible rfl);rotate_left;(simp only [uc,uA,uB,uC,uZ,ua];rfl)
      refine ub (i := 10) (N := some 18) (v := ?_) (a' := ?_) #[T,T,T,T,T,T,T,T,T,T,T,F,F,F,F,F,F,F,F,F,F,F,F] rfl rfl (uY HT_.out (by kernel_rfl)) (fun _ _ _ h => h) (Or.inl ⟨by rfl, ?_⟩) ?_ ?_
      rotate_left;(intro w';go_simp;with_reducible rfl);rotate_left;(simp only [uc,uA,uB,uC,uZ,ua];rfl)
      refine ub (i := 11) (N := some 19) (v := ?_) (a' := ?_) #[T,T,T,T,T,T,T,T,T,T,T,T,F,F,F,F,F,F,F,F,F,F,F] rfl rfl (uY HT_.out (by kernel_rfl)) (fun _ _ _ h => h) (Or.inl ⟨by rfl, ?_⟩) ?_ ?_
      rotate_left;(intro w';go_simp;with_reducible rfl);rotate_left;(simp only [uc,uA,uB,uC,uZ,ua];rfl)
      refine ub (i := 12) (N := some 20) (v := ?_) (a' := ?_) #[T,T,T,T,T,T,T,T,T,T,T,T,T,F,F,F,F,F,F,F,F,F,F] rfl rfl (uY HT_.out (by kernel_rfl)) (fun _ _ _ h => h) (Or.inl ⟨by rfl, ?_⟩) ?_ ?_
      rotate_left;(intro w';go_simp;with_reducible rfl);rotate_left;(simp only [uc,uA,uB,uC,uZ,ua];rfl)
      refine ub (i := 13) (N := some 21) (v := ?_) (a' := ?_) #[T,T,T,T,T,T,T,T,T,T,T,T,T,T,F,F,F,F,F,F,F,F,F] rfl rfl (uY HT_.out (by kernel_rfl)) (fun _ _ _ h => h) (Or.inl ⟨by rfl, ?_⟩) ?_ ?_
      rotate_left;(intro w';go_simp;with_reducible rfl);rotate_left;(simp only [uc,uA,uB,uC,uZ,ua];rfl)
      refine ub (i := 14) (N := some 22) (v := ?_) (a' := ?_) #[T,T,T,T,T,T,T,T,T,T,T,T,T,T,T,F,F,F,F,F,F,F,F] rfl rfl (uY HT_.out (by kernel_rfl)) (fun _ _ _ h => h) (Or.inl ⟨by rfl, ?_⟩) ?_ ?_
      rotate_left;(intro w';go_simp;with_reducible rfl);rotate_left;(simp only [uc,uA,uB,uC,uZ,ua];rfl)
      refine ub (i := 19) (N := some 27) (v := ?_) (a' := ?_) #[T,T,T,T,T,T,T,T,T,T,T,T,T,T,T,F,F,F,F,T,F,F,F] rfl rfl (uY HT_.out (by kernel_rfl)) (fun _ _ _ h => h) (Or.inl ⟨by rfl, ?_⟩) ?_ ?_
      rotate_left;(intro w';go_simp;with_reducible rfl);rotate_left;(simp only [uc,uA,uB,uC,uZ,ua];rfl)
      refine take_ (i := 15) (N := some 23) (v := ?_) (a' := ?_) #[T,T,T,T,T,T,T,T,T,T,T,T,T,T,T,T,F,F,F,T,F,F,F] rfl rfl (take_ofW HT_.out HW_.out (by kernel_rfl)) (fun _ _ _ h => h) (Or.inl ⟨by rfl, ?_⟩) hHeld ?_ ?_
      rotate_left;(rintro w' ⟨s0, s1, s2, s3, s4, s5, s6⟩;go_simp;with_reducible rfl);rotate_left;(simp only [uc,uA,uB,uC,uZ,ua];rfl)
      refine ub (i := 16) (N := some 24) (v := ?_) (a' := ?_) #[T,T,T,T,T,T,T,T,T,T,T,T,T,T,T,T,T,F,F,T,F,F,F] rfl rfl (uY HT_.out (by kernel_rfl)) (fun _ _ _ h => h) (Or.inl ⟨by rfl, ?_⟩) ?_ ?_
      rotate_left;(intro w';go_simp;with_reducible rfl);rotate_left;(simp only [uc,uA,uB,uC,uZ,ua];rfl)
      refine ub (i := 17) (N := some 25) (v := ?_) (a' := ?_) #[T,T,T,T,T,T,T,T,T,T,T,T,T,T,T,T,T,T,F,T,F,F,F] rfl rfl (uY HT_.out (by kernel_rfl)) (fun _ _ _ h => h) (Or.inl ⟨by rfl, ?_⟩) ?_ ?_
      rotate_left;(intro w';go_simp;with_reducible rfl);rotate_left;(simp only [uc,uA,uB,uC,uZ,ua];rfl)
      refine take_ (i := 18) (N := some 26) (v := ?_) (a' := ?_) #[T,T,T,T,T,T,T,T,T,T,T,T,T,T,T,T,T,T,T,T,F,F,F] rfl rfl (take_ofW HT_.out HW_.out (by kernel_rfl)) (fun _ _ _ h => h) (Or.inl ⟨by rfl, ?_⟩) hHeld ?_ ?_
      rotate_left;(rintro w' ⟨s0, s1, s2, s3, s4, s5, s6⟩;go_simp;with_reducible rfl);rotate_left;(simp only [uc,uA,uB,uC,uZ,ua];rfl)
      refine take_ (i := 20) (N := some 28) (v := ?_) (a' := ?_) #[T,T,T,T,T,T,T,T,T,T,T,T,T,T,T,T,T,T,T,T,T,F,F] rfl rfl (take_ofW HT_.out HW_.out (by kernel_rfl)) (fun _ _ _ h => h) (Or.inl ⟨by rfl, ?_⟩) hHeld ?_ ?_
      rotate_left;(rintro w' ⟨s0, s1, s2, s3, s4, s5, s6⟩;go_simp;with_reducible rfl);rotate_left;(simp only [uc,uA,uB,uC,uZ,ua];rfl)
      refine ub (i := 21) (N := some 29) (v := ?_) (a' := ?_) #[T,T,T,T,T,T,T,T,T,T,T,T,T,T,T,T,T,T,T,T,T,T,F] rfl rfl (uY HT_.out (by kernel_rfl)) (fun _ _ _ h => h) (Or.inl ⟨by rfl, ?_⟩) ?_ ?_
      rotate_left;(intro w';go_simp;with_reducible rfl);rotate_left;(simp only [uc,uA,uB,uC,uZ,ua];rfl)
      refine ub (i := 22) (N := some 30) (v := ?_) (a' := ?_) #[T,T,T,T,T,T,T,T,T,T,T,T,T,T,T,T,T,T,T,T,T,T,T] rfl rfl (uY HT_.out (by kernel_rfl)) (fun _ _ _ h => h) (Or.inl ⟨by rfl, ?_⟩) ?_ ?_
      rotate_left;(intro w';go_simp;with_reducible rfl);rotate_left;(simp only [uc,uA,uB,uC,uZ,ua];rfl)
      refine done_ (done_of HT_.out (by kernel_rfl)) ?_
      have hcz43_0 : w42.cell? ⟨gb127, 0, none⟩ = some (.int .i64 t129) := (uF BK127.out 0).trans rfl
      have hcz43_1 : w42.cell? ⟨gb127, 1, none⟩ = some (.int .i64 t130) := (uF BK127.out 1).trans rfl
      have hcz43_2 : w42.cell? ⟨gb127, 2, none⟩ = some (.bool false) := (uF BK127.out 2).trans rfl
      have hcz43_3 : w42.cell? ⟨gb127, 3, none⟩ = some (.slice (some ad136) t132.length co39) := (uF BK127.out 3).trans rfl
      have hfz43_0 := uI BK127.out 0
      have hfz43_1 := uI BK127.out 1
      have hfz43_2 := uI BK127.out 2
      have hfz43_3 := uI BK127.out 3
      have hcz44_0 : w42.cell? ⟨gb128, 0, none⟩ = some (.int .i64 0) := (uF BK128.out 0).trans rfl
      have hcz44_1 : w42.cell? ⟨gb128, 1, none⟩ = some (.int .i64 0) := (uF BK128.out 1).trans rfl
      have hcz44_2 : w42.cell? ⟨gb128, 2, none⟩ = some (.bool false) := (uF BK128.out 2).trans rfl
      have hcz44_3 : w42.cell? ⟨gb128, 3, none⟩ = some (.slice none 0 0) := (uF BK128.out 3).trans rfl
      have hfz44_0 := uI BK128.out 0
      have hfz44_1 := uI BK128.out 1
      have hfz44_2 := uI BK128.out 2
      have hfz44_3 := uI BK128.out 3
      try go_wp2
      refine bodyPost_ret (results_ctt rfl _ _ gb128 29 #[.int .i64 t129, .int .i64 t130, .bool false, .slice (some ad136) t132.length co39] (0, 0) _ rfl (by (with_reducible repeat (first | refine uH ?_ _ | refine uJ ?_ | refine uG ?_ _)); refine uP (cs := #[.int .i64 t129, .int .i64 t130, .bool false, .slice none 0 0]) ?_ 3 _ rfl; (with_reducible repeat (first | refine uH ?_ _ | refine uJ ?_ | refine uG ?_ _)); refine uP (cs := #[.int .i64 t129, .int .i64 t130, .bool false, .slice none 0 0]) ?_ 2 _ rfl; (with_reducible repeat (first | refine uH ?_ _ | refine uJ ?_ | refine uG ?_ _)); refine uP (cs := #[.int .i64 t129, .int .i64 0, .bool false, .slice none 0 0]) ?_ 1 _ rfl; (with_reducible repeat (first | refine uH ?_ _ | refine uJ ?_ | refine uG ?_ _)); refine uP (cs := #[.int .i64 0, .int .i64 0, .bool false, .slice none 0 0]) ?_ 0 _ rfl; (with_reducible repeat (first | refine uH ?_ _ | refine uJ ?_ | refine uG ?_ _)); exact BK128.out) Try.underlying29 rfl (by kernel_rfl)) rfl ?_
      exact ⟨_, by first | rfl | (simp [errW_none, errW_some] <;> rfl) | (simp [*, errW_none, errW_some] <;> rfl), by (with_reducible repeat (first | apply uU | apply uS | apply uT)); exact uX (uV (p := ⟨gb128, 3, none⟩) (uV (p := ⟨gb128, 2, none⟩) (uV (p := ⟨gb128, 1, none⟩) (uV (p := ⟨gb128, 0, none⟩) (uW HO134.out BK128.out (by decide)) (fun _ hk => hk.2) (.int .i64 t129)) (fun _ hk => hk.2) (.int .i64 t130)) (fun _ hk => hk.2) (.bool false)) (fun _ hk => hk.2) (.slice (some ad136) t132.length co39)) (fun _ hk => trivial), by repeat (first | (with_reducible first | exact HB.out | apply uL | apply uE | apply uK | refine uM ?_ GE127.out | refine uM ?_ GE128.out) | exact HB.out)⟩
     ·rw [if_neg c32] at H
      have c32b0 : decide (((rd_T53 t132 0).f1) < t129) = false := decide_eq_false c32
      clear c32
      obtain ⟨y138, hy138⟩ : ∃ y_ : List (S53), y_ = (([] : List (S53))) := ⟨_, rfl⟩
      replace H : (if 1 ≤ (t132.length : Int) then ((some (t132.drop 1 : List (S53))).bind fun y141 => (if y138.length + y141.length < 5864062014805 then (some (t129, t130, false, (y138 ++ y141), (rd_T53 t132 0).f0, true)) else (none))) else (none)) = some (r1, r2, r3, r4, r5, r6) := by first | (rw [hy138]; with_reducible exact H) | (have H2_ := (Option.bind_some _ _).symm.trans H; rw [hy138]; with_reducible exact H2_) | (have H2_ := (Option.bind_some _ _).symm.trans H; with_reducible exact H2_) | with_reducible exact H | (rw [hy138]; exact H) | exact H
      have Ny138 := uD hy138
      clear hy138
      by_cases c45 : 1 ≤ (t132.length : Int)
      ·rw [if_pos c45] at H
       have c45b0 := eq_true c45
       have c45b1 : decide (1 ≤ (t132.length : Int)) = true := decide_eq_true c45
       clear c45
       obtain ⟨y141, hy141⟩ : ∃ y_ : List (S53), y_ = (t132.drop 1) := ⟨_, rfl⟩
       replace H : (if y138.length + y141.length < 5864062014805 then (some (t129, t130, false, (y138 ++ y141), (rd_T53 t132 0).f0, true)) else (none)) = some (r1, r2, r3, r4, r5, r6) := by first | (rw [hy141]; with_reducible exact H) | (have H2_ := (Option.bind_some _ _).symm.trans H; rw [hy141]; with_reducible exact H2_) | (have H2_ := (Option.bind_some _ _).symm.trans H; with_reducible exact H2_) | with_reducible exact H | (rw [hy141]; exact H) | exact H
       have Ny141 := uD hy141
       clear hy141
       by_cases c46 : y138.length + y141.length < 5864062014805
       ·rw [if_pos c46] at H
        have LMc46 := uD c46
        clear c46
        obtain ⟨y145, hy145⟩ : ∃ y_ : List (S53), y_ = (y138 ++ y141) := ⟨_, rfl⟩
        replace H : (some (t129, t130, false, y145, (rd_T53 t132 0).f0, true)) = some (r1, r2, r3, r4, r5, r6) := by first | (rw [hy145]; with_reducible exact H) | (have H2_ := (Option.bind_some _ _).symm.trans H; rw [hy145]; with_reducible exact H2_) | (have H2_ := (Option.bind_some _ _).symm.trans H; with_reducible exact H2_) | with_reducible exact H | (rw [hy145]; exact H) | exact H
        have Ny145 := uD hy145
        clear hy145
        simp only [Option.some.injEq, Prod.mk.injEq] at H
        obtain ⟨rfl, rfl, rfl, rfl, rfl, rfl⟩ := H
        go_enter Try.func26, Try.ntmps26
        try go_wp2_with (first | ((with_reducible refine gate_dst (N := 1) rfl ?_); (try (refine gate_guard (by rfl) ?_; dsimp only)); refine box_event ?hg (N := 1) ?hd (cs := #[.int .i64 a0_0, .int .i64 a0_1, .bool a0_2, .slice A0_3 l0_3.length c0_3]) (t := 29) ?hr ?_; (case hd => rfl); (case hg => rfl); (case hr => first | (go_simp; done) | (go_simp; rfl)); intro gb127 hg w47 hbox hb; have BK127 := uD (hbox); have GW127 := uD ((by rw [hg]; exact (uN (by repeat (first | (with_reducible first | exact HB.out | apply uL | apply uE | apply uK) | exact HB.out))) : w.heap.size ≤ gb127)); have GE127 := uD ((by rw [hg]; exact (uN (by repeat (first | (with_reducible first | exact HB.out | apply uL | apply uE | apply uK) | exact HB.out))) : w.heap.size ≤ gb127)); replace HB := uD (uO (by repeat (first | (with_reducible first | exact HB.out | apply uL | apply uE | apply uK) | exact HB.out)) hb); clear hb hbox hg) | ((with_reducible refine gate_dst (N := 2) rfl ?_); (try (refine gate_guard (by rfl) ?_; dsimp only)); refine box_event ?hg (N := 2) ?hd (cs := #[.int .i64 0, .int .i64 0, .bool false, .slice none 0 0]) (t := 29) ?hr ?_; (case hd => rfl); (case hg => rfl); (case hr => first | (go_simp; done) | (go_simp; rfl)); intro gb128 hg w48 hbox hb; have BK128 := uD (hbox); have GW128 := uD ((by rw [hg]; exact (uN (by repeat (first | (with_reducible first | exact HB.out | apply uL | apply uE | apply uK | refine uM ?_ GE127.out) | exact HB.out))) : w.heap.size ≤ gb128)); have GE128 := uD ((by rw [hg]; exact (uN (by repeat (first | (with_reducible first | exact HB.out | apply uL | apply uE | apply uK | refine uM ?_ GE127.out) | exact HB.out))) : w.heap.size ≤ gb128)); replace HB := uD (uO (by repeat (first | (with_reducible first | exact HB.out | apply uL | apply uE | apply uK | refine uM ?_ GE127.out) | exact HB.out)) hb); have NB127_128 := uD ((by rw [hg]; exact Nat.ne_of_lt (blk_lt (g := gb127) (o := .cells #[.int .i64 a0_0, .int .i64 a0_1, .bool a0_2, .slice A0_3 l0_3.length c0_3] 29 (0, 0)) (by (with_reducible repeat (first | refine uH ?_ _ | refine uJ ?_ | refine uG ?_ _)); exact BK127.out)) : gb127 ≠ gb128)); have NB128_127 := uD ((by rw [hg]; exact Nat.ne_of_gt (blk_lt (g := gb127) (o := .cells #[.int .i64 a0_0, .int .i64 a0_1, .bool a0_2, .slice A0_3 l0_3.length c0_3] 29 (0, 0)) (by (with_reducible repeat (first | refine uH ?_ _ | refine uJ ?_ | refine uG ?_ _)); exact BK127.out)) : gb128 ≠ gb127)); replace BK127 := uD (blk_below (g := gb127) (o := .cells #[.int .i64 a0_0, .int .i64 a0_1, .bool a0_2, .slice A0_3 l0_3.length c0_3] 29 (0, 0)) (by (with_reducible repeat (first | refine uH ?_ _ | refine uJ ?_ | refine uG ?_ _)); exact BK127.out) hb); clear hb hbox hg; have hnb49 := NB127_128.out; have hnc49 := NB128_127.out; have hcz50_0 : w48.cell? ⟨gb127, 0, none⟩ = some (.int .i64 a0_0) := (uF BK127.out 0).trans rfl; have hcz50_1 : w48.cell? ⟨gb127, 1, none⟩ = some (.int .i64 a0_1) := (uF BK127.out 1).trans rfl; have hcz50_2 : w48.cell? ⟨gb127, 2, none⟩ = some (.bool a0_2) := (uF BK127.out 2).trans rfl; have hcz50_3 : w48.cell? ⟨gb127, 3, none⟩ = some (.slice A0_3 l0_3.length c0_3) := (uF BK127.out 3).trans rfl; have hfz50_0 := uI BK127.out 0; have hfz50_1 := uI BK127.out 1; have hfz50_2 := uI BK127.out 2; have hfz50_3 := uI BK127.out 3) | ((with_reducible refine gate_callee (f := 55) rfl ?_); refine goesL_ (some 7) rfl rfl Try.func55 (by kernel_rfl) rfl #[.agg #[.int .i64 a0_0, .int .i64 a0_1, .bool a0_2, .slice A0_3 l0_3.length c0_3]] rfl (by (try simp only [List.map_toArray, List.map_cons, List.map_nil]); first | done | rfl | (simp only [List.length_drop, List.length_take]; rfl)) ?_; (with_reducible refine (spec_l02Fresh.calls a0_0 a0_1 a0_2 _ _ l0_3 t129 t130 false t132 _ ?side1 ?side2 A2.out).mono ?_); (case side1 => repeat (first | exact (Kd.C_below HR0_3.out HB.out) | (with_reducible refine Kd.C_alloc ?_ _) | (with_reducible refine Kd.C_drewN ?_ _) | (with_reducible refine Kd.C_drew ?_))); (case side2 => exact HC0_3.out); rintro e w51 ⟨v133, rfl, ho0, hb⟩; refine ⟨_, rfl, ?_⟩; have HO134 := uD (Kd.R_lower ho0 (uN (by repeat (first | (with_reducible first | exact HB.out | apply uL | apply uE | apply uK | refine uM ?_ GE127.out | refine uM ?_ GE128.out) | exact HB.out)))); replace BK127 := uD (blk_below (g := gb127) (o := .cells #[.int .i64 a0_0, .int .i64 a0_1, .bool a0_2, .slice A0_3 l0_3.length c0_3] 29 (0, 0)) (by (with_reducible repeat (first | refine uH ?_ _ | refine uJ ?_ | refine uG ?_ _)); exact BK127.out) hb); replace BK128 := uD (blk_below (g := gb128) (o := .cells #[.int .i64 0, .int .i64 0, .bool false, .slice none 0 0] 29 (0, 0)) (by (with_reducible repeat (first | refine uH ?_ _ | refine uJ ?_ | refine uG ?_ _)); exact BK128.out) hb); replace HB := uD (uO (by repeat (first | (with_reducible first | exact HB.out | apply uL | apply uE | apply uK | refine uM ?_ GE127.out | refine uM ?_ GE128.out) | exact HB.out)) hb); (try clear hb); (try clear hb2); (try clear hk); (try clear hi); (try clear ho0); have hcz52_0 : w51.cell? ⟨gb127, 0, none⟩ = some (.int .i64 a0_0) := (uF BK127.out 0).trans rfl; have hcz52_1 : w51.cell? ⟨gb127, 1, none⟩ = some (.int .i64 a0_1) := (uF BK127.out 1).trans rfl; have hcz52_2 : w51.cell? ⟨gb127, 2, none⟩ = some (.bool a0_2) := (uF BK127.out 2).trans rfl; have hcz52_3 : w51.cell? ⟨gb127, 3, none⟩ = some (.slice A0_3 l0_3.length c0_3) := (uF BK127.out 3).trans rfl; have hfz52_0 := uI BK127.out 0; have hfz52_1 := uI BK127.out 1; have hfz52_2 := uI BK127.out 2; have hfz52_3 := uI BK127.out 3; obtain ⟨Ao53, co53, eo53⟩ := Kd.R_slice HO134.out; subst eo53))
        have n0_ : Aside0 (Kd.R k53 53 ((((w51.setCell ⟨gb127, 0, none⟩ (.int .i64 t129)).setCell ⟨gb127, 1, none⟩ (.int .i64 t130)).setCell ⟨gb127, 2, none⟩ (.bool false)).setCell ⟨gb127, 3, none⟩ (.slice Ao53 t132.length co53)) w.heap.size (fun _ => True) (.slice Ao53 t132.length co53) t132) := ⟨by (with_reducible repeat (first | apply uU | apply uS | apply uT)); exact uX (uV (p := ⟨gb127, 3, none⟩) (uV (p := ⟨gb127, 2, none⟩) (uV (p := ⟨gb127, 1, none⟩) (uV (p := ⟨gb127, 0, none⟩) (uW HO134.out BK127.out (by decide)) (fun _ hk => hk.2) (.int .i64 t129)) (fun _ hk => hk.2) (.int .i64 t130)) (fun _ hk => hk.2) (.bool false)) (fun _ hk => hk.2) (.slice Ao53 t132.length co53)) (fun _ hk => trivial)⟩
        have n1_ : Aside0 (((((w51.setCell ⟨gb127, 0, none⟩ (.int .i64 t129)).setCell ⟨gb127, 1, none⟩ (.int .i64 t130)).setCell ⟨gb127, 2, none⟩ (.bool false)).setCell ⟨gb127, 3, none⟩ (.slice Ao53 t132.length co53)).heap[gb127]? = some (.cells #[.int .i64 t129, .int .i64 t130, .bool false, .slice Ao53 t132.length co53] 29 (0, 0))) := ⟨by (with_reducible repeat (first | refine uH ?_ _ | refine uJ ?_ | refine uG ?_ _)); refine uP (cs := #[.int .i64 t129, .int .i64 t130, .bool false, .slice A0_3 l0_3.length c0_3]) ?_ 3 _ rfl; (with_reducible repeat (first | refine uH ?_ _ | refine uJ ?_ | refine uG ?_ _)); refine uP (cs := #[.int .i64 t129, .int .i64 t130, .bool a0_2, .slice A0_3 l0_3.length c0_3]) ?_ 2 _ rfl; (with_reducible repeat (first | refine uH ?_ _ | refine uJ ?_ | refine uG ?_ _)); refine uP (cs := #[.int .i64 t129, .int .i64 a0_1, .bool a0_2, .slice A0_3 l0_3.length c0_3]) ?_ 1 _ rfl; (with_reducible repeat (first | refine uH ?_ _ | refine uJ ?_ | refine uG ?_ _)); refine uP (cs := #[.int .i64 a0_0, .int .i64 a0_1, .bool a0_2, .slice A0_3 l0_3.length c0_3]) ?_ 0 _ rfl; (with_reducible repeat (first | refine uH ?_ _ | refine uJ ?_ | refine uG ?_ _)); exact BK127.out⟩
        have n2_ : Aside0 (((((w51.setCell ⟨gb127, 0, none⟩ (.int .i64 t129)).setCell ⟨gb127, 1, none⟩ (.int .i64 t130)).setCell ⟨gb127, 2, none⟩ (.bool false)).setCell ⟨gb127, 3, none⟩ (.slice Ao53 t132.length co53)).heap[gb128]? = some (.cells #[.int .i64 0, .int .i64 0, .bool false, .slice none 0 0] 29 (0, 0))) := ⟨by (with_reducible repeat (first | refine uH ?_ _ | refine uJ ?_ | refine uG ?_ _)); refine uQ ?_ NB128_127.out _; (with_reducible repeat (first | refine uH ?_ _ | refine uJ ?_ | refine uG ?_ _)); refine uQ ?_ NB128_127.out _; (with_reducible repeat (first | refine uH ?_ _ | refine uJ ?_ | refine uG ?_ _)); refine uQ ?_ NB128_127.out _; (with_reducible repeat (first | refine uH ?_ _ | refine uJ ?_ | refine uG ?_ _)); refine uQ ?_ NB128_127.out _; (with_reducible repeat (first | refine uH ?_ _ | refine uJ ?_ | refine uG ?_ _)); exact BK128.out⟩
        have n3_ : Aside0 (Below w.heap.size w ((((w51.setCell ⟨gb127, 0, none⟩ (.int .i64 t129)).setCell ⟨gb127, 1, none⟩ (.int .i64 t130)).setCell ⟨gb127, 2, none⟩ (.bool false)).setCell ⟨gb127, 3, none⟩ (.slice Ao53 t132.length co53))) := ⟨by repeat (first | (with_reducible first | exact HB.out | apply uL | apply uE | apply uK | refine uM ?_ GE127.out | refine uM ?_ GE128.out) | exact HB.out)⟩
        (try clear HO134)
        (try clear BK127)
        (try clear BK128)
        (try clear HB)
        generalize ((((w51.setCell ⟨gb127, 0, none⟩ (.int .i64 t129)).setCell ⟨gb127, 1, none⟩ (.int .i64 t130)).setCell ⟨gb127, 2, none⟩ (.bool false)).setCell ⟨gb127, 3, none⟩ (.slice Ao53 t132.length co53)) = w54 at n0_ n1_ n2_ n3_ ⊢
        have HO134 := n0_
        have BK127 := n1_
        have BK128 := n2_
        have HB := n3_
        clear n0_ n1_ n2_ n3_
        replace HO134 := uD (uT HO134.out)
        replace BK127 := uD (uJ BK127.out)
        replace BK128 := uD (uJ BK128.out)
        replace HB := uD (uK HB.out)
        have p136 : 0 ≤ (0 : Int) := (by omega)
        have q136 : 0 < (t132.length : Int) := of_decide_eq_true (by first | (with_reducible assumption) | assumption)
        obtain ⟨ad136, e136, hx136_0, hx136_1, hx136_2⟩ := at_T53 (Kd.R_reads' HO134.out).2.2 0 p136 q136
        cases e136
        have qi136 : (0 < t132.length) = True := eq_true (by omega)
        (try rw [show ((0 : Int)).toNat = 0 from rfl] at hx136_0)
        (try rw [show 0 * 3 = 0 from rfl] at hx136_0)
        (try rw [Addr.add_zero'] at hx136_0)
        (try rw [show ((0 : Int)).toNat = 0 from rfl] at hx136_1)
        (try rw [show 0 * 3 = 0 from rfl] at hx136_1)
        (try rw [Addr.add_zero'] at hx136_1)
        (try rw [show ((0 : Int)).toNat = 0 from rfl] at hx136_2)
        (try rw [show 0 * 3 = 0 from rfl] at hx136_2)
        (try rw [Addr.add_zero'] at hx136_2)
        replace p136 := eq_true p136
        replace q136 := eq_true q136
        refine start_ (n := 23) (S := fun w' => w'.cell? ⟨gb127, 0, none⟩ = some (.int .i64 t129) ∧ w'.cell? ⟨gb127, 1, none⟩ = some (.int .i64 t130) ∧ w'.cell? ⟨gb127, 2, none⟩ = some (.bool false) ∧ w'.cell? ⟨gb127, 3, none⟩ = some (.slice (some ad136) t132.length co53) ∧ w'.cell? ad136 = some (.int .i64 ((rd_T53 t132 0).f0)) ∧ w'.cell? ⟨ad136.block, ad136.off + 1, none⟩ = some (.int .i64 ((rd_T53 t132 0).f1)) ∧ w'.cell? ⟨ad136.block, ad136.off + 2, none⟩ = some (.int .i64 ((rd_T53 t132 0).f2))) (ds := []) #[F,F,F,F,F,F,F,F,F,F,F,F,F,F,F,F,F,F,F,F,F,F,F] (by kernel_rfl) rfl rfl ⟨(uF BK127.out 0).trans rfl, (uF BK127.out 1).trans rfl, (uF BK127.out 2).trans rfl, (uF BK127.out 3).trans rfl, hx136_0, hx136_1, hx136_2⟩ (fun hHeld => ?_); refine with_tabW spec_Leave.tab2 spec_Leave.bits2 (fun HT_ HW_ => ?_)
        generalize w54.drew = w55 at HO134 BK127 BK128 HB HO134 hx136_0 hx136_1 hx136_2 hHeld ⊢
        refine take_ (i := 0) (N := some 8) (v := ?_) (a' := ?_) #[T,F,F,F,F,F,F,F,F,F,F,F,F,F,F,F,F,F,F,F,F,F,F] rfl rfl (take_ofW HT_.out HW_.out (by kernel_rfl)) (fun _ _ _ h => h) (Or.inl ⟨by rfl, ?_⟩) hHeld ?_ ?_
        rotate_left;(rintro w' ⟨s0, s1, s2, s3, s4, s5, s6⟩;go_simp;with_reducible rfl);rotate_left;(simp only [uc,uA,uB,uC,uZ,ua];rfl)
        refine one_ (i := 1) (N := some 9) #[T,T,F,F,F,F,F,F,F,F,F,F,F,F,F,F,F,F,F,F,F,F,F] rfl rfl (one_of HT_.out (by kernel_rfl)) (by decide) (fun K hK => ?_)
        refine goes_ Try.func16 (by kernel_rfl) rfl #[.agg #[.int .i64 t129, .int .i64 t130, .bool false, .slice (some ad136) t132.length co53]] (by rfl) rfl rfl (by (try simp only [List.map_toArray, List.map_cons, List.map_nil]); first | done | rfl | (simp only [List.length_drop, List.length_take]; rfl)) ?_
        with_reducible refine (spec_BeltOk.calls k t129 t130 false _ _ t132 true _ ?side1 ?side2 A3.out).mono ?_
        (case side1 => repeat (first | exact (Kd.R_reads' HO134.out).2.2 | (with_reducible refine Kd.C_alloc ?_ _) | (with_reducible refine Kd.C_drewN ?_ _) | (with_reducible refine Kd.C_drew ?_)))
        (case side2 => exact (Kd.R_reads' HO134.out).2.1)
        rintro e w56 ⟨rfl, hb⟩
        have HS4_ := (hb.cell (World.block_lt_of_cell? _ _ (hHeld.2.2.2.2.1))).trans (hHeld.2.2.2.2.1)
        have HS5_ := (hb.cell (World.block_lt_of_cell? _ _ (hHeld.2.2.2.2.2.1))).trans (hHeld.2.2.2.2.2.1)
        have HS6_ := (hb.cell (World.block_lt_of_cell? _ _ (hHeld.2.2.2.2.2.2))).trans (hHeld.2.2.2.2.2.2)
        refine ⟨_, rfl, ?_⟩
        replace HO134 := uD (Kd.R_below (by (with_reducible repeat (first | apply uU | apply uS | apply uT)); exact HO134.out) hb)
        replace BK127 := uD (blk_below (g := gb127) (o := .cells #[.int .i64 t129, .int .i64 t130, .bool false, .slice (some ad136) t132.length co53] 29 (0, 0)) (by (with_reducible repeat (first | refine uH ?_ _ | refine uJ ?_ | refine uG ?_ _)); exact BK127.out) hb)
        replace BK128 := uD (blk_below (g := gb128) (o := .cells #[.int .i64 0, .int .i64 0, .bool false, .slice none 0 0] 29 (0, 0)) (by (with_reducible repeat (first | refine uH ?_ _ | refine uJ ?_ | refine uG ?_ _)); exact BK128.out) hb)
        replace HB := uD (uO (by repeat (first | (with_reducible first | exact HB.out | apply uL | apply uE | apply uK | refine uM ?_ GE127.out | refine uM ?_ GE128.out) | exact HB.out)) hb)
        (try clear hb)
        (try clear hb2)
        (try clear hk)
        (try clear hi)
        refine hK.out _ _ ⟨(uF BK127.out 0).trans rfl, (uF BK127.out 1).trans rfl, (uF BK127.out 2).trans rfl, (uF BK127.out 3).trans rfl, HS4_, HS5_, HS6_⟩ (fun hHeld => ?_)
        clear hK K
        refine norm_ (a' := ?_) ?_ ?_
        rotate_left
        ·show uc _ (some 9) _ = _
         simp only [uc, uA, uB, uC, uZ, ua]
         rfl
        refine ub (i := 2) (N := some 10) (v := ?_) (a' := ?_) #[T,T,T,F,F,F,F,F,F,F,F,F,F,F,F,F,F,F,F,F,F,F,F] rfl rfl (uY HT_.out (by kernel_rfl)) (fun _ _ _ h => h) (Or.inl ⟨by rfl, ?_⟩) ?_ ?_
        rotate_left;(intro w';go_simp;with_reducible rfl);rotate_left;(simp only [uc,uA,uB,uC,uZ,ua];rfl)
        refine ub (i := 3) (N := some 11) (v := ?_) (a' := ?_) #[T,T,T,T,F,F,F,F,F,F,F,F,F,F,F,F,F,F,F,F,F,F,F] rfl rfl (uY HT_.out (by kernel_rfl)) (fun _ _ _ h => h) (Or.inl ⟨by rfl, ?_⟩) ?_ ?_
        rotate_left;(intro w';go_simp;with_reducible rfl);rotate_left;(simp only [uc,uA,uB,uC,uZ,ua];rfl)
        refine ub (i := 4) (N := some 12) (v := ?_) (a' := ?_) #[T,T,T,T,T,F,F,F,F,F,F,F,F,F,F,F,F,F,F,F,F,F,F] rfl rfl (uY HT_.out (by kernel_rfl)) (fun _ _ _ h => h) (Or.inl ⟨by rfl, ?_⟩) ?_ ?_
        rotate_left;(intro w';go_simp;with_reducible rfl);rotate_left;(simp only [uc,uA,uB,uC,uZ,ua];rfl)
        refine take_ (i := 5) (N := some 13) (v := ?_) (a' := ?_) #[T,T,T,T,T,T,F,F,F,F,F,F,F,F,F,F,F,F,F,F,F,F,F] rfl rfl (take_ofW HT_.out HW_.out (by kernel_rfl)) (fun _ _ _ h => h) (Or.inl ⟨by rfl, ?_⟩) hHeld ?_ ?_
        rotate_left;(rintro w' ⟨s0, s1, s2, s3, s4, s5, s6⟩;go_simp;with_reducible rfl);rotate_left;(simp only [uc,uA,uB,uC,uZ,ua];rfl)
        refine ub (i := 6) (N := some 14) (v := ?_) (a' := ?_) #[T,T,T,T,T,T,T,F,F,F,F,F,F,F,F,F,F,F,F,F,F,F,F] rfl rfl (uY HT_.out (by kernel_rfl)) (fun _ _ _ h => h) (Or.inl ⟨by rfl, ?_⟩) ?_ ?_
        rotate_left;(intro w';go_simp;with_reducible rfl);rotate_left;(simp only [uc,uA,uB,uC,uZ,ua];rfl)
        refine ub (i := 7) (N := some 15) (v := ?_) (a' := ?_) #[T,T,T,T,T,T,T,T,F,F,F,F,F,F,F,F,F,F,F,F,F,F,F] rfl rfl (uY HT_.out (by kernel_rfl)) (fun _ _ _ h => h) (Or.inl ⟨by rfl, ?_⟩) ?_ ?_
        rotate_left;(intro w';go_simp;with_reducible rfl);rotate_left;(simp only [uc,uA,uB,uC,uZ,ua];rfl)
        refine ub (i := 8) (N := some 16) (v := ?_) (a' := ?_) #[T,T,T,T,T,T,T,T,T,F,F,F,F,F,F,F,F,F,F,F,F,F,F] rfl rfl (uY HT_.out (by kernel_rfl)) (fun _ _ _ h => h) (Or.inl ⟨by rfl, ?_⟩) ?_ ?_
        rotate_left;(intro w';go_simp;with_reducible rfl);rotate_left;(simp only [uc,uA,uB,uC,uZ,ua];rfl)
        refine take_ (i := 9) (N := some 17) (v := ?_) (a' := ?_) #[T,T,T,T,T,T,T,T,T,T,F,F,F,F,F,F,F,F,F,F,F,F,F] rfl rfl (take_ofW HT_.out HW_.out (by kernel_rfl)) (fun _ _ _ h => h) (Or.inl ⟨by rfl, ?_⟩) hHeld ?_ ?_
        rotate_left;(rintro w' ⟨s0, s1, s2, s3, s4, s5, s6⟩;go_simp;with_reducible rfl);rotate_left;(simp only [uc,uA,uB,uC,uZ,ua];rfl)
        refine ub (i := 10) (N := some 18) (v := ?_) (a' := ?_) #[T,T,T,T,T,T,T,T,T,T,T,F,F,F,F,F,F,F,F,F,F,F,F] rfl rfl (uY HT_.out (by kernel_rfl)) (fun _ _ _ h => h) (Or.inl ⟨by rfl, ?_⟩) ?_ ?_
        rotate_left;(intro w';go_simp;with_reducible rfl);rotate_left;(simp only [uc,uA,uB,uC,uZ,ua];rfl)
        refine ub (i := 11) (N := some 19) (v := ?_) (a' := ?_) #[T,T,T,T,T,T,T,T,T,T,T,T,F,F,F,F,F,F,F,F,F,F,F] rfl rfl (uY HT_.out (by kernel_rfl)) (fun _ _ _ h => h) (Or.inl ⟨by rfl, ?_⟩) ?_ ?_
        rotate_left;(intro w';go_simp;with_reducible rfl);rotate_left;(simp only [uc,uA,uB,uC,uZ,ua];rfl)
        refine ub (i := 12) (N := some 20) (v := ?_) (a' := ?_) #[T,T,T,T,T,T,T,T,T,T,T,T,T,F,F,F,F,F,F,F,F,F,F] rfl rfl (uY HT_.out (by kernel_rfl)) (fun _ _ _ h => h) (Or.inl ⟨by rfl, ?_⟩) ?_ ?_
        rotate_left;(intro w';go_simp;with_reducible rfl);rotate_left;(simp only [uc,uA,uB,uC,uZ,ua];rfl)
        refine ub (i := 13) (N := some 21) (v := ?_) (a' := ?_) #[T,T,T,T,T,T,T,T,T,T,T,T,T,T,F,F,F,F,F,F,F,F,F] rfl rfl (uY HT_.out (by kernel_rfl)) (fun _ _ _ h => h) (Or.inl ⟨by rfl, ?_⟩) ?_ ?_
        rotate_left;(intro w';go_simp;with_reducible rfl);rotate_left;(simp only [uc,uA,uB,uC,uZ,ua];rfl)
        refine ub (i := 14) (N := some 22) (v := ?_) (a' := ?_) #[T,T,T,T,T,T,T,T,T,T,T,T,T,T,T,F,F,F,F,F,F,F,F] rfl rfl (uY HT_.out (by kernel_rfl)) (fun _ _ _ h => h) (Or.inl ⟨by rfl, ?_⟩) ?_ ?_
        rotate_left;(intro w';go_simp;with_reducible rfl);rotate_left;(simp only [uc,uA,uB,uC,uZ,ua];rfl)
        refine ub (i := 19) (N := some 27) (v := ?_) (a' := ?_) #[T,T,T,T,T,T,T,T,T,T,T,T,T,T,T,F,F,F,F,T,F,F,F] rfl rfl (uY HT_.out (by kernel_rfl)) (fun _ _ _ h => h) (Or.inl ⟨by rfl, ?_⟩) ?_ ?_
        rotate_left;(intro w';go_simp;with_reducible rfl);rotate_left;(simp only [uc,uA,uB,uC,uZ,ua];rfl)
        refine take_ (i := 15) (N := some 23) (v := ?_) (a' := ?_) #[T,T,T,T,T,T,T,T,T,T,T,T,T,T,T,T,F,F,F,T,F,F,F] rfl rfl (take_ofW HT_.out HW_.out (by kernel_rfl)) (fun _ _ _ h => h) (Or.inl ⟨by rfl, ?_⟩) hHeld ?_ ?_
        rotate_left;(rintro w' ⟨s0, s1, s2, s3, s4, s5, s6⟩;go_simp;with_reducible rfl);rotate_left;(simp only [uc,uA,uB,uC,uZ,ua];rfl)
        refine ub (i := 16) (N := some 24) (v := ?_) (a' := ?_) #[T,T,T,T,T,T,T,T,T,T,T,T,T,T,T,T,T,F,F,T,F,F,F] rfl rfl (uY HT_.out (by kernel_rfl)) (fun _ _ _ h => h) (Or.inl ⟨by rfl, ?_⟩) ?_ ?_
        rotate_left;(intro w';go_simp;with_reducible rfl);rotate_left;(simp only [uc,uA,uB,uC,uZ,ua];rfl)
        refine ub (i := 17) (N := some 25) (v := ?_) (a' := ?_) #[T,T,T,T,T,T,T,T,T,T,T,T,T,T,T,T,T,T,F,T,F,F,F] rfl rfl (uY HT_.out (by kernel_rfl)) (fun _ _ _ h => h) (Or.inl ⟨by rfl, ?_⟩) ?_ ?_
        rotate_left;(intro w';go_simp;with_reducible rfl);rotate_left;(simp only [uc,uA,uB,uC,uZ,ua];rfl)
        refine take_ (i := 18) (N := some 26) (v := ?_) (a' := ?_) #[T,T,T,T,T,T,T,T,T,T,T,T,T,T,T,T,T,T,T,T,F,F,F] rfl rfl (take_ofW HT_.out HW_.out (by kernel_rfl)) (fun _ _ _ h => h) (Or.inl ⟨by rfl, ?_⟩) hHeld ?_ ?_
        rotate_left;(rintro w' ⟨s0, s1, s2, s3, s4, s5, s6⟩;go_simp;with_reducible rfl);rotate_left;(simp only [uc,uA,uB,uC,uZ,ua];rfl)
        refine take_ (i := 20) (N := some 28) (v := ?_) (a' := ?_) #[T,T,T,T,T,T,T,T,T,T,T,T,T,T,T,T,T,T,T,T,T,F,F] rfl rfl (take_ofW HT_.out HW_.out (by kernel_rfl)) (fun _ _ _ h => h) (Or.inl ⟨by rfl, ?_⟩) hHeld ?_ ?_
        rotate_left;(rintro w' ⟨s0, s1, s2, s3, s4, s5, s6⟩;go_simp;with_reducible rfl);rotate_left;(simp only [uc,uA,uB,uC,uZ,ua];rfl)
        refine ub (i := 21) (N := some 29) (v := ?_) (a' := ?_) #[T,T,T,T,T,T,T,T,T,T,T,T,T,T,T,T,T,T,T,T,T,T,F] rfl rfl (uY HT_.out (by kernel_rfl)) (fun _ _ _ h => h) (Or.inl ⟨by rfl, ?_⟩) ?_ ?_
        rotate_left;(intro w';go_simp;with_reducible rfl);rotate_left;(simp only [uc,uA,uB,uC,uZ,ua];rfl)
        refine ub (i := 22) (N := some 30) (v := ?_) (a' := ?_) #[T,T,T,T,T,T,T,T,T,T,T,T,T,T,T,T,T,T,T,T,T,T,T] rfl rfl (uY HT_.out (by kernel_rfl)) (fun _ _ _ h => h) (Or.inl ⟨by rfl, ?_⟩) ?_ ?_
        rotate_left;(intro w';go_simp;with_reducible rfl);rotate_left;(simp only [uc,uA,uB,uC,uZ,ua];rfl)
        refine done_ (done_of HT_.out (by kernel_rfl)) ?_
        have hcz57_0 : w56.cell? ⟨gb127, 0, none⟩ = some (.int .i64 t129) := (uF BK127.out 0).trans rfl
        have hcz57_1 : w56.cell? ⟨gb127, 1, none⟩ = some (.int .i64 t130) := (uF BK127.out 1).trans rfl
        have hcz57_2 : w56.cell? ⟨gb127, 2, none⟩ = some (.bool false) := (uF BK127.out 2).trans rfl
        have hcz57_3 : w56.cell? ⟨gb127, 3, none⟩ = some (.slice (some ad136) t132.length co53) := (uF BK127.out 3).trans rfl
        have hfz57_0 := uI BK127.out 0
        have hfz57_1 := uI BK127.out 1
        have hfz57_2 := uI BK127.out 2
        have hfz57_3 := uI BK127.out 3
        have p137 : 0 ≤ (0 : Int) := (by omega)
        have q137 : 0 < (t132.length : Int) := of_decide_eq_true (by first | (with_reducible assumption) | assumption)
        obtain ⟨ad137, e137, hx137_0, hx137_1, hx137_2⟩ := at_T53 (Kd.R_reads' HO134.out).2.2 0 p137 q137
        obtain rfl : ad136 = ad137 := (by injection e137)
        have qi137 : (0 < t132.length) = True := eq_true (by omega)
        (try rw [show ((0 : Int)).toNat = 0 from rfl] at hx137_0)
        (try rw [show 0 * 3 = 0 from rfl] at hx137_0)
        (try rw [Addr.add_zero'] at hx137_0)
        (try rw [show ((0 : Int)).toNat = 0 from rfl] at hx137_1)
        (try rw [show 0 * 3 = 0 from rfl] at hx137_1)
        (try rw [Addr.add_zero'] at hx137_1)
        (try rw [show ((0 : Int)).toNat = 0 from rfl] at hx137_2)
        (try rw [show 0 * 3 = 0 from rfl] at hx137_2)
        (try rw [Addr.add_zero'] at hx137_2)
        replace p137 := eq_true p137
        replace q137 := eq_true q137
        try go_wp2_with (first | ((with_reducible refine gate_dst (N := 37) rfl ?_); (try (refine gate_guard (by rfl) ?_; dsimp only)); refine Kd.R_lit k53 _ 53 ?hg (N := 37) ?hd (xs := ([] : List (S53))) (inner := []) (ok := fun _ => True) (okp := fun _ => True) ?hr ?hp (fun _ hk => hk) trivial (Below.refl _ _) (Nat.le_refl _) (by simp) ?_; (case hd => rfl); (case hg => rfl); (case hr => first | (go_simp; done) | (go_simp; rfl)); (case hp => exact (Reps.none _ _)); intro v139 w58 ho59 hb hg_ hnew_; clear hg_ hnew_; (first | rw [← Ny138.out] at ho59 | (simp only [Int.reduceToNat] at ho59; rw [← Ny138.out] at ho59)); have HO140 := uD (Kd.R_lower (Kd.R_new' ho59 (Kd.R_lt (by (with_reducible repeat (first | apply uU | apply uS | apply uT)); exact HO134.out))) (uN (by repeat (first | (with_reducible first | exact HB.out | apply uL | apply uE | apply uK | refine uM ?_ GE127.out | refine uM ?_ GE128.out) | exact HB.out)))); replace HO134 := uD (Kd.R_elder' (by (with_reducible repeat (first | apply uU | apply uS | apply uT)); exact HO134.out) (Kd.R_base ho59) hb); replace BK127 := uD (blk_below (g := gb127) (o := .cells #[.int .i64 t129, .int .i64 t130, .bool false, .slice (some ad136) t132.length co53] 29 (0, 0)) (by (with_reducible repeat (first | refine uH ?_ _ | refine uJ ?_ | refine uG ?_ _)); exact BK127.out) hb); replace BK128 := uD (blk_below (g := gb128) (o := .cells #[.int .i64 0, .int .i64 0, .bool false, .slice none 0 0] 29 (0, 0)) (by (with_reducible repeat (first | refine uH ?_ _ | refine uJ ?_ | refine uG ?_ _)); exact BK128.out) hb); replace HB := uD (uO (by repeat (first | (with_reducible first | exact HB.out | apply uL | apply uE | apply uK | refine uM ?_ GE127.out | refine uM ?_ GE128.out) | exact HB.out)) hb); clear hb ho59; have hcz60_0 : w58.cell? ⟨gb127, 0, none⟩ = some (.int .i64 t129) := (uF BK127.out 0).trans rfl; have hcz60_1 : w58.cell? ⟨gb127, 1, none⟩ = some (.int .i64 t130) := (uF BK127.out 1).trans rfl; have hcz60_2 : w58.cell? ⟨gb127, 2, none⟩ = some (.bool false) := (uF BK127.out 2).trans rfl; have hcz60_3 : w58.cell? ⟨gb127, 3, none⟩ = some (.slice (some ad136) t132.length co53) := (uF BK127.out 3).trans rfl; have hfz60_0 := uI BK127.out 0; have hfz60_1 := uI BK127.out 1; have hfz60_2 := uI BK127.out 2; have hfz60_3 := uI BK127.out 3; have q61 : (1 : Int) ≤ ((t132.length : Int) : Int) := of_decide_eq_true (by first | (with_reducible assumption) | assumption); obtain ⟨i061, hi061, _, hsz61, _⟩ := info_parts info53; have hroom61 : t132.length ≤ co53 := (Kd.R_reads' HO134.out).2.1; have hC61 : Kd.C k53 _ (some ad136) t132.length t132 := (Kd.R_reads' HO134.out).2.2; have hcut61 := cut_from (P := Try.prog) 27 53 .i64 Try.underlying27 hi061 3 hsz61 (some ad136) t132.length co53 1 (by omega) q61; have hr61 := Kd.C_drop (m := (1 : Int).toNat) (c := co53) hC61 (by omega) hroom61; obtain ⟨A61, hA61⟩ : ∃ A1, A1 = (if co53 = (1 : Int).toNat then (some ad136) else ((some ad136) : Option Addr).map (·.add ((1 : Int).toNat * 3))) := ⟨_, rfl⟩; obtain ⟨c61, hc61⟩ : ∃ c1, c1 = co53 - (1 : Int).toNat := ⟨_, rfl⟩; have hy61 : y141.length = t132.length - (1 : Int).toNat := (by rw [Ny141.out, List.length_drop] <;> omega); rw [show (t132).drop (1 : Int).toNat = y141 from Ny141.out.symm] at hr61; replace hr61 : Kd.C k53 _ A61 y141.length y141 := (by rw [hA61]; exact hr61); rw [← hy61, ← hA61, ← hc61] at hcut61; have HR144 := uD hr61; have HC144 := uD (show y141.length ≤ c61 from by rw [hy61, hc61]; exact Nat.sub_le_sub_right hroom61 _); clear hr61 hC61 hroom61 hi061 hsz61 hc61; have KY61 := uD hy61; have KA61 := uD hA61; clear hy61 hA61; have KL61 := uD (show 1 ≤ t132.length from by omega); replace q61 := eq_true q61) | ((with_reducible refine gate_builtin (b := .append) (xs := #[.tmp 37, .tmp 40]) rfl ?_); (try (refine gate_guard (by rfl) ?_; dsimp only)); at_builtin; refine Kd.R_append_rows k53 (w0 := w) w.heap.size rfl (.tmp 37) (.tmp 40) 27 53 (.agg #[(.int .i64 0), (.int .i64 0), (.int .i64 0)]) 24 rfl Try.underlying27 info53 rfl (by decide) (by omega) v139 y138 y141 _ _ _ (fun k_ => some k_ ≠ (.slice (some ad136) t132.length co53 : Value).ownBlock) (fun _ => False) rfl rfl ?aO ?aR (fun _ _ h => h) (fun _ h => h.elim) ?aF ?aB ?aS ?aL ?_; (case aR => repeat (first | exact (by repeat (first | (with_reducible exact HR144.out) | (with_reducible refine Kd.C_alloc ?_ _) | (with_reducible refine Kd.C_drewN ?_ _) | (with_reducible refine Kd.C_drew ?_) | exact HR144.out)) | (with_reducible refine Kd.C_alloc ?_ _) | (with_reducible refine Kd.C_drewN ?_ _) | (with_reducible refine Kd.C_drew ?_))); (case aB => exact (by repeat (first | (with_reducible first | exact HB.out | apply uL | apply uE | apply uK | refine uM ?_ GE127.out | refine uM ?_ GE128.out) | exact HB.out))); (case aF => exact (fun k_ hk => Kd.fresh' (Kd.R_lt (by (with_reducible repeat (first | apply uU | apply uS | apply uT)); exact HO134.out)) k_ hk)); (case aO => exact (by (with_reducible repeat (first | apply uU | apply uS | apply uT)); exact uX HO140.out (fun _ hk => hk.2))); (case aS => exact (uN (by repeat (first | (with_reducible first | exact HB.out | apply uL | apply uE | apply uK | refine uM ?_ GE127.out | refine uM ?_ GE128.out) | exact HB.out)))); (case aL => have := LMc46.out; omega); intro v146 w62 ho hb hg hat; rw [← Ny145.out] at ho; replace BK127 := uD (blk_grown (g := gb127) (o := .cells #[.int .i64 t129, .int .i64 t130, .bool false, .slice (some ad136) t132.length co53] 29 (0, 0)) (by (with_reducible repeat (first | refine uH ?_ _ | refine uJ ?_ | refine uG ?_ _)); exact BK127.out) hg (Kd.R_ne HO140.out BK127.out (by decide))); replace BK128 := uD (blk_grown (g := gb128) (o := .cells #[.int .i64 0, .int .i64 0, .bool false, .slice none 0 0] 29 (0, 0)) (by (with_reducible repeat (first | refine uH ?_ _ | refine uJ ?_ | refine uG ?_ _)); exact BK128.out) hg (Kd.R_ne HO140.out BK128.out (by decide))); replace HB := uD (hb); replace HR144 := uD ((show Kd.C k53 w62 A61 y141.length y141 from by rw [Ny141.out, KA61.out]; exact Kd.C_drop (m := 1) (c := co53) ((Kd.R_reads' (Kd.R_after (ok := (fun _ => True)) (by (with_reducible repeat (first | apply uU | apply uS | apply uT)); exact HO134.out) hg hat)).2.2) KL61.out ((Kd.R_reads' (Kd.R_after (ok := (fun _ => True)) (by (with_reducible repeat (first | apply uU | apply uS | apply uT)); exact HO134.out) hg hat)).2.1))); replace HO134 := uD (Kd.R_after (ok := (fun _ => True)) (by (with_reducible repeat (first | apply uU | apply uS | apply uT)); exact HO134.out) hg hat); have HO147 := uD (ho); clear HO140; clear ho hb hg hat; obtain ⟨Ao63, co63, eo63⟩ := Kd.R_slice HO147.out; subst eo63; have hcz64_0 : w62.cell? ⟨gb127, 0, none⟩ = some (.int .i64 t129) := (uF BK127.out 0).trans rfl; have hcz64_1 : w62.cell? ⟨gb127, 1, none⟩ = some (.int .i64 t130) := (uF BK127.out 1).trans rfl; have hcz64_2 : w62.cell? ⟨gb127, 2, none⟩ = some (.bool false) := (uF BK127.out 2).trans rfl; have hcz64_3 : w62.cell? ⟨gb127, 3, none⟩ = some (.slice (some ad136) t132.length co53) := (uF BK127.out 3).trans rfl; have hfz64_0 := uI BK127.out 0; have hfz64_1 := uI BK127.out 1; have hfz64_2 := uI BK127.out 2; have hfz64_3 := uI BK127.out 3; have hcz65_0 : w62.cell? ⟨gb128, 0, none⟩ = some (.int .i64 0) := (uF BK128.out 0).trans rfl; have hcz65_1 : w62.cell? ⟨gb128, 1, none⟩ = some (.int .i64 0) := (uF BK128.out 1).trans rfl; have hcz65_2 : w62.cell? ⟨gb128, 2, none⟩ = some (.bool false) := (uF BK128.out 2).trans rfl; have hcz65_3 : w62.cell? ⟨gb128, 3, none⟩ = some (.slice none 0 0) := (uF BK128.out 3).trans rfl; have hfz65_0 := uI BK128.out 0; have hfz65_1 := uI BK128.out 1; have hfz65_2 := uI BK128.out 2; have hfz65_3 := uI BK128.out 3))
        refine bodyPost_ret (results_ctt rfl _ _ gb128 29 #[.int .i64 t129, .int .i64 t130, .bool false, .slice Ao63 y145.length co63] (0, 0) _ rfl (by (with_reducible repeat (first | refine uH ?_ _ | refine uJ ?_ | refine uG ?_ _)); refine uP (cs := #[.int .i64 t129, .int .i64 t130, .bool false, .slice none 0 0]) ?_ 3 _ rfl; (with_reducible repeat (first | refine uH ?_ _ | refine uJ ?_ | refine uG ?_ _)); refine uP (cs := #[.int .i64 t129, .int .i64 t130, .bool false, .slice none 0 0]) ?_ 2 _ rfl; (with_reducible repeat (first | refine uH ?_ _ | refine uJ ?_ | refine uG ?_ _)); refine uP (cs := #[.int .i64 t129, .int .i64 0, .bool false, .slice none 0 0]) ?_ 1 _ rfl; (with_reducible repeat (first | refine uH ?_ _ | refine uJ ?_ | refine uG ?_ _)); refine uP (cs := #[.int .i64 0, .int .i64 0, .bool false, .slice none 0 0]) ?_ 0 _ rfl; (with_reducible repeat (first | refine uH ?_ _ | refine uJ ?_ | refine uG ?_ _)); refine uQ ?_ NB128_127.out _; (with_reducible repeat (first | refine uH ?_ _ | refine uJ ?_ | refine uG ?_ _)); exact BK128.out) Try.underlying29 rfl (by kernel_rfl)) rfl ?_
        exact ⟨_, by first | rfl | (simp [errW_none, errW_some] <;> rfl) | (simp [*, errW_none, errW_some] <;> rfl), by (with_reducible repeat (first | apply uU | apply uS | apply uT)); exact uX (uV (p := ⟨gb128, 3, none⟩) (uV (p := ⟨gb128, 2, none⟩) (uV (p := ⟨gb128, 1, none⟩) (uV (p := ⟨gb128, 0, none⟩) (uV (p := ⟨gb127, 3, none⟩) (uW (uW HO147.out BK127.out (by decide)) BK128.out (by decide)) (fun _ hk => hk.1.2) (.slice Ao63 y145.length co63)) (fun _ hk => hk.2) (.int .i64 t129)) (fun _ hk => hk.2) (.int .i64 t130)) (fun _ hk => hk.2) (.bool false)) (fun _ hk => hk.2) (.slice Ao63 y145.length co63)) (fun _ hk => trivial), by repeat (first | (with_reducible first | exact HB.out | apply uL | apply uE | apply uK | refine uM ?_ GE127.out | refine uM ?_ GE128.out) | exact HB.out)⟩
       ·rw [if_neg c46] at H
        exact absurd H (by simp)
      ·rw [if_neg c45] at H
       exact absurd H (by simp)
    ·rw [if_neg c31] at H
     exact absurd H (by simp)
 ·replace c4 := Bool.eq_false_iff.mpr c4
  subst c4
  have H1 : (some (t129, t130, t131, t132, 0, false)) = some (r1, r2, r3, r4, r5, r6) := by rw [if_neg (show ¬ (false = true) by decide)] at H; first | done | exact H
  clear H
  have H := H1
  clear H1
  simp only [Option.some.injEq, Prod.mk.injEq] at H
  obtain ⟨rfl, rfl, rfl, rfl, rfl, rfl⟩ := H
  go_enter Try.func26, Try.ntmps26
  try go_wp2_with (first | ((with_reducible refine gate_dst (N := 1) rfl ?_); (try (refine gate_guard (by rfl) ?_; dsimp only)); refine box_event ?hg (N := 1) ?hd (cs := #[.int .i64 a0_0, .int .i64 a0_1, .bool a0_2, .slice A0_3 l0_3.length c0_3]) (t := 29) ?hr ?_; (case hd => rfl); (case hg => rfl); (case hr => first | (go_simp; done) | (go_simp; rfl)); intro gb127 hg w66 hbox hb; have BK127 := uD (hbox); have GW127 := uD ((by rw [hg]; exact (uN (by repeat (first | (with_reducible first | exact HB.out | apply uL | apply uE | apply uK) | exact HB.out))) : w.heap.size ≤ gb127)); have GE127 := uD ((by rw [hg]; exact (uN (by repeat (first | (with_reducible first | exact HB.out | apply uL | apply uE | apply uK) | exact HB.out))) : w.heap.size ≤ gb127)); replace HB := uD (uO (by repeat (first | (with_reducible first | exact HB.out | apply uL | apply uE | apply uK) | exact HB.out)) hb); clear hb hbox hg) | ((with_reducible refine gate_dst (N := 2) rfl ?_); (try (refine gate_guard (by rfl) ?_; dsimp only)); refine box_event ?hg (N := 2) ?hd (cs := #[.int .i64 0, .int .i64 0, .bool false, .slice none 0 0]) (t := 29) ?hr ?_; (case hd => rfl); (case hg => rfl); (case hr => first | (go_simp; done) | (go_simp; rfl)); intro gb128 hg w67 hbox hb; have BK128 := uD (hbox); have GW128 := uD ((by rw [hg]; exact (uN (by repeat (first | (with_reducible first | exact HB.out | apply uL | apply uE | apply uK | refine uM ?_ GE127.out) | exact HB.out))) : w.heap.size ≤ gb128)); have GE128 := uD ((by rw [hg]; exact (uN (by repeat (first | (with_reducible first | exact HB.out | apply uL | apply uE | apply uK | refine uM ?_ GE127.out) | exact HB.out))) : w.heap.size ≤ gb128)); replace HB := uD (uO (by repeat (first | (with_reducible first | exact HB.out | apply uL | apply uE | apply uK | refine uM ?_ GE127.out) | exact HB.out)) hb); have NB127_128 := uD ((by rw [hg]; exact Nat.ne_of_lt (blk_lt (g := gb127) (o := .cells #[.int .i64 a0_0, .int .i64 a0_1, .bool a0_2, .slice A0_3 l0_3.length c0_3] 29 (0, 0)) (by (with_reducible repeat (first | refine uH ?_ _ | refine uJ ?_ | refine uG ?_ _)); exact BK127.out)) : gb127 ≠ gb128)); have NB128_127 := uD ((by rw [hg]; exact Nat.ne_of_gt (blk_lt (g := gb127) (o := .cells #[.int .i64 a0_0, .int .i64 a0_1, .bool a0_2, .slice A0_3 l0_3.length c0_3] 29 (0, 0)) (by (with_reducible repeat (first | refine uH ?_ _ | refine uJ ?_ | refine uG ?_ _)); exact BK127.out)) : gb128 ≠ gb127)); replace BK127 := uD (blk_below (g := gb127) (o := .cells #[.int .i64 a0_0, .int .i64 a0_1, .bool a0_2, .slice A0_3 l0_3.length c0_3] 29 (0, 0)) (by (with_reducible repeat (first | refine uH ?_ _ | refine uJ ?_ | refine uG ?_ _)); exact BK127.out) hb); clear hb hbox hg; have hnb68 := NB127_128.out; have hnc68 := NB128_127.out; have hcz69_0 : w67.cell? ⟨gb127, 0, none⟩ = some (.int .i64 a0_0) := (uF BK127.out 0).trans rfl; have hcz69_1 : w67.cell? ⟨gb127, 1, none⟩ = some (.int .i64 a0_1) := (uF BK127.out 1).trans rfl; have hcz69_2 : w67.cell? ⟨gb127, 2, none⟩ = some (.bool a0_2) := (uF BK127.out 2).trans rfl; have hcz69_3 : w67.cell? ⟨gb127, 3, none⟩ = some (.slice A0_3 l0_3.length c0_3) := (uF BK127.out 3).trans rfl; have hfz69_0 := uI BK127.out 0; have hfz69_1 := uI BK127.out 1; have hfz69_2 := uI BK127.out 2; have hfz69_3 := uI BK127.out 3) | ((with_reducible refine gate_callee (f := 55) rfl ?_); refine goesL_ (some 7) rfl rfl Try.func55 (by kernel_rfl) rfl #[.agg #[.int .i64 a0_0, .int .i64 a0_1, .bool a0_2, .slice A0_3 l0_3.length c0_3]] rfl (by (try simp only [List.map_toArray, List.map_cons, List.map_nil]); first | done | rfl | (simp only [List.length_drop, List.length_take]; rfl)) ?_; (with_reducible refine (spec_l02Fresh.calls a0_0 a0_1 a0_2 _ _ l0_3 t129 t130 t131 t132 _ ?side1 ?side2 A2.out).mono ?_); (case side1 => repeat (first | exact (Kd.C_below HR0_3.out HB.out) | (with_reducible refine Kd.C_alloc ?_ _) | (with_reducible refine Kd.C_drewN ?_ _) | (with_reducible refine Kd.C_drew ?_))); (case side2 => exact HC0_3.out); rintro e w70 ⟨v133, rfl, ho0, hb⟩; refine ⟨_, rfl, ?_⟩; have HO134 := uD (Kd.R_lower ho0 (uN (by repeat (first | (with_reducible first | exact HB.out | apply uL | apply uE | apply uK | refine uM ?_ GE127.out | refine uM ?_ GE128.out) | exact HB.out)))); replace BK127 := uD (blk_below (g := gb127) (o := .cells #[.int .i64 a0_0, .int .i64 a0_1, .bool a0_2, .slice A0_3 l0_3.length c0_3] 29 (0, 0)) (by (with_reducible repeat (first | refine uH ?_ _ | refine uJ ?_ | refine uG ?_ _)); exact BK127.out) hb); replace BK128 := uD (blk_below (g := gb128) (o := .cells #[.int .i64 0, .int .i64 0, .bool false, .slice none 0 0] 29 (0, 0)) (by (with_reducible repeat (first | refine uH ?_ _ | refine uJ ?_ | refine uG ?_ _)); exact BK128.out) hb); replace HB := uD (uO (by repeat (first | (with_reducible first | exact HB.out | apply uL | apply uE | apply uK | refine uM ?_ GE127.out | refine uM ?_ GE128.out) | exact HB.out)) hb); (try clear hb); (try clear hb2); (try clear hk); (try clear hi); (try clear ho0); have hcz71_0 : w70.cell? ⟨gb127, 0, none⟩ = some (.int .i64 a0_0) := (uF BK127.out 0).trans rfl; have hcz71_1 : w70.cell? ⟨gb127, 1, none⟩ = some (.int .i64 a0_1) := (uF BK127.out 1).trans rfl; have hcz71_2 : w70.cell? ⟨gb127, 2, none⟩ = some (.bool a0_2) := (uF BK127.out 2).trans rfl; have hcz71_3 : w70.cell? ⟨gb127, 3, none⟩ = some (.slice A0_3 l0_3.length c0_3) := (uF BK127.out 3).trans rfl; have hfz71_0 := uI BK127.out 0; have hfz71_1 := uI BK127.out 1; have hfz71_2 := uI BK127.out 2; have hfz71_3 := uI BK127.out 3; obtain ⟨Ao72, co72, eo72⟩ := Kd.R_slice HO134.out; subst eo72))
  have n0_ : Aside0 (Kd.R k53 53 ((((w70.setCell ⟨gb127, 0, none⟩ (.int .i64 t129)).setCell ⟨gb127, 1, none⟩ (.int .i64 t130)).setCell ⟨gb127, 2, none⟩ (.bool t131)).setCell ⟨gb127, 3, none⟩ (.slice Ao72 t132.length co72)) w.heap.size (fun _ => True) (.slice Ao72 t132.length co72) t132) := ⟨by (with_reducible repeat (first | apply uU | apply uS | apply uT)); exact uX (uV (p := ⟨gb127, 3, none⟩) (uV (p := ⟨gb127, 2, none⟩) (uV (p := ⟨gb127, 1, none⟩) (uV (p := ⟨gb127, 0, none⟩) (uW HO134.out BK127.out (by decide)) (fun _ hk => hk.2) (.int .i64 t129)) (fun _ hk => hk.2) (.int .i64 t130)) (fun _ hk => hk.2) (.bool t131)) (fun _ hk => hk.2) (.slice Ao72 t132.length co72)) (fun _ hk => trivial)⟩
  have n1_ : Aside0 (((((w70.setCell ⟨gb127, 0, none⟩ (.int .i64 t129)).setCell ⟨gb127, 1, none⟩ (.int .i64 t130)).setCell ⟨gb127, 2, none⟩ (.bool t131)).setCell ⟨gb127, 3, none⟩ (.slice Ao72 t132.length co72)).heap[gb127]? = some (.cells #[.int .i64 t129, .int .i64 t130, .bool t131, .slice Ao72 t132.length co72] 29 (0, 0))) := ⟨by (with_reducible repeat (first | refine uH ?_ _ | refine uJ ?_ | refine uG ?_ _)); refine uP (cs := #[.int .i64 t129, .int .i64 t130, .bool t131, .slice A0_3 l0_3.length c0_3]) ?_ 3 _ rfl; (with_reducible repeat (first | refine uH ?_ _ | refine uJ ?_ | refine uG ?_ _)); refine uP (cs := #[.int .i64 t129, .int .i64 t130, .bool a0_2, .slice A0_3 l0_3.length c0_3]) ?_ 2 _ rfl; (with_reducible repeat (first | refine uH ?_ _ | refine uJ ?_ | refine uG ?_ _)); refine uP (cs := #[.int .i64 t129, .int .i64 a0_1, .bool a0_2, .slice A0_3 l0_3.length c0_3]) ?_ 1 _ rfl; (with_reducible repeat (first | refine uH ?_ _ | refine uJ ?_ | refine uG ?_ _)); refine uP (cs := #[.int .i64 a0_0, .int .i64 a0_1, .bool a0_2, .slice A0_3 l0_3.length c0_3]) ?_ 0 _ rfl; (with_reducible repeat (first | refine uH ?_ _ | refine uJ ?_ | refine uG ?_ _)); exact BK127.out⟩
  have n2_ : Aside0 (((((w70.setCell ⟨gb127, 0, none⟩ (.int .i64 t129)).setCell ⟨gb127, 1, none⟩ (.int .i64 t130)).setCell ⟨gb127, 2, none⟩ (.bool t131)).setCell ⟨gb127, 3, none⟩ (.slice Ao72 t132.length co72)).heap[gb128]? = some (.cells #[.int .i64 0, .int .i64 0, .bool false, .slice none 0 0] 29 (0, 0))) := ⟨by (with_reducible repeat (first | refine uH ?_ _ | refine uJ ?_ | refine uG ?_ _)); refine uQ ?_ NB128_127.out _; (with_reducible repeat (first | refine uH ?_ _ | refine uJ ?_ | refine uG ?_ _)); refine uQ ?_ NB128_127.out _; (with_reducible repeat (first | refine uH ?_ _ | refine uJ ?_ | refine uG ?_ _)); refine uQ ?_ NB128_127.out _; (with_reducible repeat (first | refine uH ?_ _ | refine uJ ?_ | refine uG ?_ _)); refine uQ ?_ NB128_127.out _; (with_reducible repeat (first | refine uH ?_ _ | refine uJ ?_ | refine uG ?_ _)); exact BK128.out⟩
  have n3_ : Aside0 (Below w.heap.size w ((((w70.setCell ⟨gb127, 0, none⟩ (.int .i64 t129)).setCell ⟨gb127, 1, none⟩ (.int .i64 t130)).setCell ⟨gb127, 2, none⟩ (.bool t131)).setCell ⟨gb127, 3, none⟩ (.slice Ao72 t132.length co72))) := ⟨by repeat (first | (with_reducible first | exact HB.out | apply uL | apply uE | apply uK | refine uM ?_ GE127.out | refine uM ?_ GE128.out) | exact HB.out)⟩
  (try clear HO134)
  (try clear BK127)
  (try clear BK128)
  (try clear HB)
  generalize ((((w70.setCell ⟨gb127, 0, none⟩ (.int .i64 t129)).setCell ⟨gb127, 1, none⟩ (.int .i64 t130)).setCell ⟨gb127, 2, none⟩ (.bool t131)).setCell ⟨gb127, 3, none⟩ (.slice Ao72 t132.length co72)) = w73 at n0_ n1_ n2_ n3_ ⊢
  have HO134 := n0_
  have BK127 := n1_
  have BK128 := n2_
  have HB := n3_
  clear n0_ n1_ n2_ n3_
  replace HO134 := uD (uT HO134.out)
  replace BK127 := uD (uJ BK127.out)
  replace BK128 := uD (uJ BK128.out)
  replace HB := uD (uK HB.out)
  refine start_ (n := 23) (S := fun w' => w'.cell? ⟨gb127, 0, none⟩ = some (.int .i64 t129) ∧ w'.cell? ⟨gb127, 1, none⟩ = some (.int .i64 t130) ∧ w'.cell? ⟨gb127, 2, none⟩ = some (.bool t131) ∧ w'.cell? ⟨gb127, 3, none⟩ = some (.slice Ao72 t132.length co72)) (ds := []) #[F,F,F,F,F,F,F,F,F,F,F,F,F,F,F,F,F,F,F,F,F,F,F] (by kernel_rfl) rfl rfl ⟨(uF BK127.out 0).trans rfl, (uF BK127.out 1).trans rfl, (uF BK127.out 2).trans rfl, (uF BK127.out 3).trans rfl⟩ (fun hHeld => ?_); refine with_tabW spec_Leave.tab2 spec_Leave.bits2 (fun HT_ HW_ => ?_)
  generalize w73.drew = w74 at HO134 BK127 BK128 HB HO134 hHeld ⊢
  refine take_ (i := 0) (N := some 8) (v := ?_) (a' := ?_) #[T,F,F,F,F,F,F,F,F,F,F,F,F,F,F,F,F,F,F,F,F,F,F] rfl rfl (take_ofW HT_.out HW_.out (by kernel_rfl)) (fun _ _ _ h => h) (Or.inl ⟨by rfl, ?_⟩) hHeld ?_ ?_
  rotate_left;(rintro w' ⟨s0, s1, s2, s3⟩;go_simp;with_reducible rfl);rotate_left;(simp only [uc,uA,uB,uC,uZ,ua];rfl)
  refine one_ (i := 1) (N := some 9) #[T,T,F,F,F,F,F,F,F,F,F,F,F,F,F,F,F,F,F,F,F,F,F] rfl rfl (one_of HT_.out (by kernel_rfl)) (by decide) (fun K hK => ?_)
  refine goes_ Try.func16 (by kernel_rfl) rfl #[.agg #[.int .i64 t129, .int .i64 t130, .bool t131, .slice Ao72 t132.length co72]] (by rfl) rfl rfl (by (try simp only [List.map_toArray, List.map_cons, List.map_nil]); first | done | rfl | (simp only [List.length_drop, List.length_take]; rfl)) ?_
  with_reducible refine (spec_BeltOk.calls k t129 t130 t131 _ _ t132 false _ ?side1 ?side2 A3.out).mono ?_
  (case side1 => repeat (first | exact (Kd.R_reads' HO134.out).2.2 | (with_reducible refine Kd.C_alloc ?_ _) | (with_reducible refine Kd.C_drewN ?_ _) | (with_reducible refine Kd.C_drew ?_)))
  (case side2 => exact (Kd.R_reads' HO134.out).2.1)
  rintro e w75 ⟨rfl, hb⟩
  refine ⟨_, rfl, ?_⟩
  replace HO134 := uD (Kd.R_below (by (with_reducible repeat (first | apply uU | apply uS | apply uT)); exact HO134.out) hb)
  replace BK127 := uD (blk_below (g := gb127) (o := .cells #[.int .i64 t129, .int .i64 t130, .bool t131, .slice Ao72 t132.length co72] 29 (0, 0)) (by (with_reducible repeat (first | refine uH ?_ _ | refine uJ ?_ | refine uG ?_ _)); exact BK127.out) hb)
  replace BK128 := uD (blk_below (g := gb128) (o := .cells #[.int .i64 0, .int .i64 0, .bool false, .slice none 0 0] 29 (0, 0)) (by (with_reducible repeat (first | refine uH ?_ _ | refine uJ ?_ | refine uG ?_ _)); exact BK128.out) hb)
  replace HB := uD (uO (by repeat (first | (with_reducible first | exact HB.out | apply uL | apply uE | apply uK | refine uM ?_ GE127.out | refine uM ?_ GE128.out) | exact HB.out)) hb)
  (try clear hb)
  (try clear hb2)
  (try clear hk)
  (try clear hi)
  refine hK.out _ _ ⟨(uF BK127.out 0).trans rfl, (uF BK127.out 1).trans rfl, (uF BK127.out 2).trans rfl, (uF BK127.out 3).trans rfl⟩ (fun hHeld => ?_)
  clear hK K
  refine norm_ (a' := ?_) ?_ ?_
  rotate_left
  ·show uc _ (some 9) _ = _
   simp only [uc, uA, uB, uC, uZ, ua]
   rfl
  refine ub (i := 2) (N := some 10) (v := ?_) (a' := ?_) #[T,T,T,F,F,F,F,F,F,F,F,F,F,F,F,F,F,F,F,F,F,F,F] rfl rfl (uY HT_.out (by kernel_rfl)) (fun _ _ _ h => h) (Or.inl ⟨by rfl, ?_⟩) ?_ ?_
  rotate_left;(intro w';go_simp;with_reducible rfl);rotate_left;(simp only [uc,uA,uB,uC,uZ,ua];rfl)
  refine ub (i := 3) (N := some 11) (v := ?_) (a' := ?_) #[T,T,T,T,F,F,F,F,F,F,F,F,F,F,F,F,F,F,F,F,F,F,F] rfl rfl (uY HT_.out (by kernel_rfl)) (fun _ _ _ h => h) (Or.inl ⟨by rfl, ?_⟩) ?_ ?_
  rotate_left;(intro w';go_simp;with_reducible rfl);rotate_left;(simp only [uc,uA,uB,uC,uZ,ua];rfl)
  refine ub (i := 4) (N := some 12) (v := undef) (a' := ?_) #[T,T,T,T,T,F,F,F,F,F,F,F,F,F,F,F,F,F,F,F,F,F,F] rfl rfl (uY HT_.out (by kernel_rfl)) (fun _ _ _ h => h) (Or.inr ⟨by rfl, rfl⟩) ?_ ?_
  rotate_left
  ·simp only [uc, uA, uB, uC, uZ, ua]
   rfl
  refine ub (i := 5) (N := some 13) (v := undef) (a' := ?_) #[T,T,T,T,T,T,F,F,F,F,F,F,F,F,F,F,F,F,F,F,F,F,F] rfl rfl (uY HT_.out (by kernel_rfl)) (fun _ _ _ h => h) (Or.inr ⟨by rfl, rfl⟩) ?_ ?_
  rotate_left
  ·simp only [uc, uA, uB, uC, uZ, ua]
   rfl
  refine ub (i := 6) (N := some 14) (v := ?_) (a' := ?_) #[T,T,T,T,T,T,T,F,F,F,F,F,F,F,F,F,F,F,F,F,F,F,F] rfl rfl (uY HT_.out (by kernel_rfl)) (fun _ _ _ h => h) (Or.inl ⟨by rfl, ?_⟩) ?_ ?_
  rotate_left;(intro w';go_simp;with_reducible rfl);rotate_left;(simp only [uc,uA,uB,uC,uZ,ua];rfl)
  refine ub (i := 7) (N := some 15) (v := ?_) (a' := ?_) #[T,T,T,T,T,T,T,T,F,F,F,F,F,F,F,F,F,F,F,F,F,F,F] rfl rfl (uY HT_.out (by kernel_rfl)) (fun _ _ _ h => h) (Or.inl ⟨by rfl, ?_⟩) ?_ ?_
  rotate_left;(intro w';go_simp;with_reducible rfl);rotate_left;(simp only [uc,uA,uB,uC,uZ,ua];rfl)
  refine ub (i := 8) (N := some 16) (v := undef) (a' := ?_) #[T,T,T,T,T,T,T,T,T,F,F,F,F,F,F,F,F,F,F,F,F,F,F] rfl rfl (uY HT_.out (by kernel_rfl)) (fun _ _ _ h => h) (Or.inr ⟨by rfl, rfl⟩) ?_ ?_
  rotate_left
  ·simp only [uc, uA, uB, uC, uZ, ua]
   rfl
  refine ub (i := 9) (N := some 17) (v := undef) (a' := ?_) #[T,T,T,T,T,T,T,T,T,T,F,F,F,F,F,F,F,F,F,F,F,F,F] rfl rfl (uY HT_.out (by kernel_rfl)) (fun _ _ _ h => h) (Or.inr ⟨by rfl, rfl⟩) ?_ ?_
  rotate_left
  ·simp only [uc, uA, uB, uC, uZ, ua]
   rfl
  refine ub (i := 10) (N := some 18) (v := undef) (a' := ?_) #[T,T,T,T,T,T,T,T,T,T,T,F,F,F,F,F,F,F,F,F,F,F,F] rfl rfl (uY HT_.out (by kernel_rfl)) (fun _ _ _ h => h) (Or.inr ⟨by rfl, rfl⟩) ?_ ?_
  rotate_left
  ·simp only [uc, uA, uB, uC, uZ, ua]
   rfl
  refine ub (i := 11) (N := some 19) (v := undef) (a' := ?_) #[T,T,T,T,T,T,T,T,T,T,T,T,F,F,F,F,F,F,F,F,F,F,F] rfl rfl (uY HT_.out (by kernel_rfl)) (fun _ _ _ h => h) (Or.inr ⟨by rfl, rfl⟩) ?_ ?_
  rotate_left
  ·simp only [uc, uA, uB, uC, uZ, ua]
   rfl
  refine ub (i := 12) (N := some 20) (v := ?_) (a' := ?_) #[T,T,T,T,T,T,T,T,T,T,T,T,T,F,F,F,F,F,F,F,F,F,F] rfl rfl (uY HT_.out (by kernel_rfl)) (fun _ _ _ h => h) (Or.inl ⟨by rfl, ?_⟩) ?_ ?_
  rotate_left;(intro w';go_simp;with_reducible rfl);rotate_left;(simp only [uc,uA,uB,uC,uZ,ua];rfl)
  refine ub (i := 13) (N := some 21) (v := ?_) (a' := ?_) #[T,T,T,T,T,T,T,T,T,T,T,T,T,T,F,F,F,F,F,F,F,F,F] rfl rfl (uY HT_.out (by kernel_rfl)) (fun _ _ _ h => h) (Or.inl ⟨by rfl, ?_⟩) ?_ ?_
  rotate_left;(intro w';go_simp;with_reducible rfl);rotate_left;(simp only [uc,uA,uB,uC,uZ,ua];rfl)
  refine ub (i := 14) (N := some 22) (v := undef) (a' := ?_) #[T,T,T,T,T,T,T,T,T,T,T,T,T,T,T,F,F,F,F,F,F,F,F] rfl rfl (uY HT_.out (by kernel_rfl)) (fun _ _ _ h => h) (Or.inr ⟨by rfl, rfl⟩) ?_ ?_
  rotate_left
  ·simp only [uc, uA, uB, uC, uZ, ua]
   rfl
  refine ub (i := 15) (N := some 23) (v := undef) (a' := ?_) #[T,T,T,T,T,T,T,T,T,T,T,T,T,T,T,T,F,F,F,F,F,F,F] rfl rfl (uY HT_.out (by kernel_rfl)) (fun _ _ _ h => h) (Or.inr ⟨by rfl, rfl⟩) ?_ ?_
  rotate_left
  ·simp only [uc, uA, uB, uC, uZ, ua]
   rfl
  refine ub (i := 16) (N := some 24) (v := undef) (a' := ?_) #[T,T,T,T,T,T,T,T,T,T,T,T,T,T,T,T,T,F,F,F,F,F,F] rfl rfl (uY HT_.out (by kernel_rfl)) (fun _ _ _ h => h) (Or.inr ⟨by rfl, rfl⟩) ?_ ?_
  rotate_left
  ·simp only [uc, uA, uB, uC, uZ, ua]
   rfl
  refine ub (i := 17) (N := some 25) (v := undef) (a' := ?_) #[T,T,T,T,T,T,T,T,T,T,T,T,T,T,T,T,T,T,F,F,F,F,F] rfl rfl (uY HT_.out (by kernel_rfl)) (fun _ _ _ h => h) (Or.inr ⟨by rfl, rfl⟩) ?_ ?_
  rotate_left
  ·simp only [uc, uA, uB, uC, uZ, ua]
   rfl
  refine ub (i := 18) (N := some 26) (v := undef) (a' := ?_) #[T,T,T,T,T,T,T,T,T,T,T,T,T,T,T,T,T,T,T,F,F,F,F] rfl rfl (uY HT_.out (by kernel_rfl)) (fun _ _ _ h => h) (Or.inr ⟨by rfl, rfl⟩) ?_ ?_
  rotate_left
  ·simp only [uc, uA, uB, uC, uZ, ua]
   rfl
  refine ub (i := 19) (N := some 27) (v := undef) (a' := ?_) #[T,T,T,T,T,T,T,T,T,T,T,T,T,T,T,T,T,T,T,T,F,F,F] rfl rfl (uY HT_.out (by kernel_rfl)) (fun _ _ _ h => h) (Or.inr ⟨by rfl, rfl⟩) ?_ ?_
  rotate_left
  ·simp only [uc, uA, uB, uC, uZ, ua]
   rfl
  refine ub (i := 20) (N := some 28) (v := undef) (a' := ?_) #[T,T,T,T,T,T,T,T,T,T,T,T,T,T,T,T,T,T,T,T,T,F,F] rfl rfl (uY HT_.out (by kernel_rfl)) (fun _ _ _ h => h) (Or.inr ⟨by rfl, rfl⟩) ?_ ?_
  rotate_left
  ·simp only [uc, uA, uB, uC, uZ, ua]
   rfl
  refine ub (i := 21) (N := some 29) (v := undef) (a' := ?_) #[T,T,T,T,T,T,T,T,T,T,T,T,T,T,T,T,T,T,T,T,T,T,F] rfl rfl (uY HT_.out (by kernel_rfl)) (fun _ _ _ h => h) (Or.inr ⟨by rfl, rfl⟩) ?_ ?_
  rotate_left
  ·simp only [uc, uA, uB, uC, uZ, ua]
   rfl
  refine ub (i := 22) (N := some 30) (v := ?_) (a' := ?_) #[T,T,T,T,T,T,T,T,T,T,T,T,T,T,T,T,T,T,T,T,T,T,T] rfl rfl (uY HT_.out (by kernel_rfl)) (fun _ _ _ h => h) (Or.inl ⟨by rfl, ?_⟩) ?_ ?_
  rotate_left;(intro w';go_simp;with_reducible rfl);rotate_left;(simp only [uc,uA,uB,uC,uZ,ua];rfl)
  refine done_ (done_of HT_.out (by kernel_rfl)) ?_
  have hcz76_0 : w75.cell? ⟨gb127, 0, none⟩ = some (.int .i64 t129) := (uF BK127.out 0).trans rfl
  have hcz76_1 : w75.cell? ⟨gb127, 1, none⟩ = some (.int .i64 t130) := (uF BK127.out 1).trans rfl
  have hcz76_2 : w75.cell? ⟨gb127, 2, none⟩ = some (.bool t131) := (uF BK127.out 2).trans rfl
  have hcz76_3 : w75.cell? ⟨gb127, 3, none⟩ = some (.slice Ao72 t132.length co72) := (uF BK127.out 3).trans rfl
  have hfz76_0 := uI BK127.out 0
  have hfz76_1 := uI BK127.out 1
  have hfz76_2 := uI BK127.out 2
  have hfz76_3 := uI BK127.out 3
  have hcz77_0 : w75.cell? ⟨gb128, 0, none⟩ = some (.int .i64 0) := (uF BK128.out 0).trans rfl
  have hcz77_1 : w75.cell? ⟨gb128, 1, none⟩ = some (.int .i64 0) := (uF BK128.out 1).trans rfl
  have hcz77_2 : w75.cell? ⟨gb128, 2, none⟩ = some (.bool false) := (uF BK128.out 2).trans rfl
  have hcz77_3 : w75.cell? ⟨gb128, 3, none⟩ = some (.slice none 0 0) := (uF BK128.out 3).trans rfl
  have hfz77_0 := uI BK128.out 0
  have hfz77_1 := uI BK128.out 1
  have hfz77_2 := uI BK128.out 2
  have hfz77_3 := uI BK128.out 3
  try go_wp2
  refine bodyPost_ret (results_ctt rfl _ _ gb128 29 #[.int .i64 t129, .int .i64 t130, .bool t131, .slice Ao72 t132.length co72] (0, 0) _ rfl (by (with_reducible repeat (first | refine uH ?_ _ | refine uJ ?_ | refine uG ?_ _)); refine uP (cs := #[.int .i64 t129, .int .i64 t130, .bool t131, .slice none 0 0]) ?_ 3 _ rfl; (with_reducible repeat (first | refine uH ?_ _ | refine uJ ?_ | refine uG ?_ _)); refine uP (cs := #[.int .i64 t129, .int .i64 t130, .bool false, .slice none 0 0]) ?_ 2 _ rfl; (with_reducible repeat (first | refine uH ?_ _ | refine uJ ?_ | refine uG ?_ _)); refine uP (cs := #[.int .i64 t129, .int .i64 0, .bool false, .slice none 0 0]) ?_ 1 _ rfl; (with_reducible repeat (first | refine uH ?_ _ | refine uJ ?_ | refine uG ?_ _)); refine uP (cs := #[.int .i64 0, .int .i64 0, .bool false, .slice none 0 0]) ?_ 0 _ rfl; (with_reducible repeat (first | refine uH ?_ _ | refine uJ ?_ | refine uG ?_ _)); exact BK128.out) Try.underlying29 rfl (by kernel_rfl)) rfl ?_
  exact ⟨_, by first | rfl | (simp [errW_none, errW_some] <;> rfl) | (simp [*, errW_none, errW_some] <;> rfl), by (with_reducible repeat (first | apply uU | apply uS | apply uT)); exact uX (uV (p := ⟨gb128, 3, none⟩) (uV (p := ⟨gb128, 2, none⟩) (uV (p := ⟨gb128, 1, none⟩) (uV (p := ⟨gb128, 0, none⟩) (uW HO134.out BK128.out (by decide)) (fun _ hk => hk.2) (.int .i64 t129)) (fun _ hk => hk.2) (.int .i64 t130)) (fun _ hk => hk.2) (.bool t131)) (fun _ hk => hk.2) (.slice Ao72 t132.length co72)) (fun _ hk => trivial), by repeat (first | (with_reducible first | exact HB.out | apply uL | apply uE | apply uK | refine uM ?_ GE127.out | refine uM ?_ GE128.out) | exact HB.out)⟩

end Go.Proofs.Ytbdjbdoelbmjcaa.PFnBeltRuns
