-- Written by a program of this session (wip/myprint.py: the kit's print with changes): not by print.sh itself.
import Derived.Test.YtbdjbdoelbmjcaaPFnExactRunx0
import Derived.Test.YtbdjbdoelbmjcaaPFnExactRunx3
namespace Go.Proofs.Ytbdjbdoelbmjcaa.PFnExactRun
open Go.RowKit Go.Proofs.YtbdjbdoelbmjcaaW.PrintWords Go.Proofs.YtbdjbdoelbmjcaaW.PrintLast Go.Proofs.YtbdjbdoelbmjcaaW.PrintMore
open Go renaming Act.put → uc
open Go.Proofs.YtbdjbdoelbmjcaaW.PrintLast renaming any_of → uY, i64_w → uZ, i32_w → ua, pure_ → ub
open Go.Proofs.YtbdjbdoelbmjcaaW.PrintWords renaming Aside0.mk → uD, blk_cell → uF, blk_alloc → uG, blk_drewN → uH, blk_drew → uJ, below_drew1 → uK, below_size → uN, below_step → uO, blk_put → uP, blk_far → uQ, Kd.R_drewN → uS, Kd.R_drew → uT, Kd.R_alloc → uU, Kd.R_far → uV, Kd.R_types → uW, Kd.R_mono → uX
open List renaming setIfInBounds_toArray → uA, set_cons_zero → uB, set_cons_succ → uC
open Bool renaming true → T, false → F
attribute [local go_sem] max2_int min2_int max_two min_two max_three min_three max_four min_four   -- for this text's walks alone
set_option linter.unusedVariables false
set_option linter.unusedSimpArgs false

/-! ### spec_l02Fresh: function 55 -/
def spec_l02Fresh.f (a0_0 : Int) (a0_1 : Int) (a0_2 : Bool) (l0_3 : List (S53)) : Option (Int × Int × Bool × (List (S53))) := (some (([] : List (S53)) : List (S53))).bind fun y151 => (if y151.length + l0_3.length < 5864062014805 then (some (a0_0, a0_1, a0_2, (y151 ++ l0_3))) else (none))
set_option maxHeartbeats 8000000 in
set_option maxRecDepth 100000 in
theorem spec_l02Fresh.calls (a0_0 : Int) (a0_1 : Int) (a0_2 : Bool) (A0_3 : Option Addr) (c0_3 : Nat) (l0_3 : List (S53)) (r1 : Int) (r2 : Int) (r3 : Bool) (r4 : List (S53)) (w : World) (hr0_3 : Kd.C k53 w A0_3 l0_3.length l0_3) (hc0_3 : l0_3.length ≤ c0_3) (h : spec_l02Fresh.f a0_0 a0_1 a0_2 l0_3 = some (r1, r2, r3, r4)) :
  Calls Try.prog 55 #[.agg #[.int .i64 a0_0, .int .i64 a0_1, .bool a0_2, .slice A0_3 l0_3.length c0_3]] w fun e w' => ∃ v3_ : Value, e = .returned (.agg #[.int .i64 r1, .int .i64 r2, .bool r3, v3_]) ∧ Kd.R k53 53 w' w.heap.size (fun _ => True) v3_ r4 ∧ Below w.heap.size w w' := by
 have hu29 := Try.underlying29
 have HR0_3 := uD hr0_3
 have HC0_3 := uD hc0_3
 clear hr0_3 hc0_3
 have HB := uD (Below.refl w.heap.size w)
 have H : ((some (([] : List (S53)) : List (S53))).bind fun y151 => (if y151.length + l0_3.length < 5864062014805 then (some (a0_0, a0_1, a0_2, (y151 ++ l0_3))) else (none))) = some (r1, r2, r3, r4) := h
 clear h
 obtain ⟨y151, hy151⟩ : ∃ y_ : List (S53), y_ = (([] : List (S53))) := ⟨_, rfl⟩
 replace H : (if y151.length + l0_3.length < 5864062014805 then (some (a0_0, a0_1, a0_2, (y151 ++ l0_3))) else (none)) = some (r1, r2, r3, r4) := by first | (rw [hy151]; with_reducible exact H) | (have H2_ := (Option.bind_some _ _).symm.trans H; rw [hy151]; with_reducible exact H2_) | (have H2_ := (Option.bind_some _ _).symm.trans H; with_reducible exact H2_) | with_reducible exact H | (rw [hy151]; exact H) | exact H
 have Ny151 := uD hy151
 clear hy151
 by_cases c2 : y151.length + l0_3.length < 5864062014805
 ·rw [if_pos c2] at H
  have LMc2 := uD c2
  clear c2
  obtain ⟨y154, hy154⟩ : ∃ y_ : List (S53), y_ = (y151 ++ l0_3) := ⟨_, rfl⟩
  replace H : (some (a0_0, a0_1, a0_2, y154)) = some (r1, r2, r3, r4) := by first | (rw [hy154]; with_reducible exact H) | (have H2_ := (Option.bind_some _ _).symm.trans H; rw [hy154]; with_reducible exact H2_) | (have H2_ := (Option.bind_some _ _).symm.trans H; with_reducible exact H2_) | with_reducible exact H | (rw [hy154]; exact H) | exact H
  have Ny154 := uD hy154
  clear hy154
  simp only [Option.some.injEq, Prod.mk.injEq] at H
  obtain ⟨rfl, rfl, rfl, rfl⟩ := H
  go_enter Try.func55, Try.ntmps55
  go_wp2_with (first | ((with_reducible refine gate_dst (N := 1) rfl ?_); refine box_event ?hg (N := 1) ?hd (cs := #[.int .i64 a0_0, .int .i64 a0_1, .bool a0_2, .slice A0_3 l0_3.length c0_3]) (t := 29) ?hr ?_; (case hd => rfl); (case hg => rfl); (case hr => first | (go_simp; done) | (go_simp; rfl)); intro gb149 hg w3 hbox hb; have BK149 := uD (hbox); have GW149 := uD ((by rw [hg]; exact (uN (pb HB)) : w.heap.size ≤ gb149)); have GE149 := uD ((by rw [hg]; exact (uN (pb HB)) : w.heap.size ≤ gb149)); replace HB := uD (uO (pb HB) hb); clear hb hbox hg) | ((with_reducible refine gate_dst (N := 2) rfl ?_); refine box_event ?hg (N := 2) ?hd (cs := #[.int .i64 0, .int .i64 0, .bool false, .slice none 0 0]) (t := 29) ?hr ?_; (case hd => rfl); (case hg => rfl); (case hr => first | (go_simp; done) | (go_simp; rfl)); intro gb150 hg w4 hbox hb; have BK150 := uD (hbox); have GW150 := uD ((by rw [hg]; exact (uN (pb HB)) : w.heap.size ≤ gb150)); have GE150 := uD ((by rw [hg]; exact (uN (pb HB)) : w.heap.size ≤ gb150)); replace HB := uD (uO (pb HB) hb); have NB149_150 := uD ((by rw [hg]; exact Nat.ne_of_lt (blk_lt (g := gb149) (o := .cells #[.int .i64 a0_0, .int .i64 a0_1, .bool a0_2, .slice A0_3 l0_3.length c0_3] 29 (0, 0)) (pk BK149)) : gb149 ≠ gb150)); have NB150_149 := uD ((by rw [hg]; exact Nat.ne_of_gt (blk_lt (g := gb149) (o := .cells #[.int .i64 a0_0, .int .i64 a0_1, .bool a0_2, .slice A0_3 l0_3.length c0_3] 29 (0, 0)) (pk BK149)) : gb150 ≠ gb149)); replace BK149 := uD (blk_below (pk BK149) hb); clear hb hbox hg) | ((with_reducible refine gate_dst (N := 3) rfl ?_); refine Kd.R_lit k53 _ 53 ?hg (N := 3) ?hd (xs := ([] : List (S53))) (inner := []) (ok := fun _ => True) (okp := fun _ => True) ?hr ?hp (fun _ hk => hk) trivial (Below.refl _ _) (Nat.le_refl _) (by simp) ?_; (case hd => rfl); (case hg => rfl); (case hr => first | (go_simp; done) | (go_simp; rfl)); (case hp => exact (Reps.none _ _)); intro v152 w5 ho6 hb hg_ hnew_; clear hg_ hnew_; (first | rw [← Ny151.out] at ho6 | (simp only [Int.reduceToNat] at ho6; rw [← Ny151.out] at ho6)); have HO153 := uD (Kd.R_lower ho6 (uN (pb HB))); replace BK149 := uD (blk_below (pk BK149) hb); replace BK150 := uD (blk_below (pk BK150) hb); replace HB := uD (uO (pb HB) hb); clear hb ho6; have hnb7 := NB149_150.out; have hnc7 := NB150_149.out; obtain ⟨hcz8_0, hcz8_1, hcz8_2, hcz8_3, hfz8_0, hfz8_1, hfz8_2, hfz8_3⟩ := cz4 BK149) | ((with_reducible refine gate_builtin (b := .append) (xs := #[.tmp 3, .tmp 5]) rfl ?_); at_builtin; refine Kd.R_append_rows k53 (w0 := w) w.heap.size rfl (.tmp 3) (.tmp 5) 27 53 (.agg #[(.int .i64 0), (.int .i64 0), (.int .i64 0)]) 24 rfl Try.underlying27 info53 rfl (by decide) (by omega) v152 y151 l0_3 _ _ _ (fun _ => True) (fun _ => False) rfl rfl ?aO ?aR (fun _ _ h => h) (fun _ h => h.elim) ?aF ?aB ?aS ?aL ?_; (case aR => repeat (first | exact (Kd.C_below HR0_3.out HB.out) | (with_reducible refine Kd.C_alloc ?_ _) | (with_reducible refine Kd.C_drewN ?_ _) | (with_reducible refine Kd.C_drew ?_))); (case aB => exact (pb HB)); (case aF => exact (fun _ _ => trivial)); (case aO => exact (pr HO153)); (case aS => exact (uN (pb HB))); (case aL => have := LMc2.out; omega); intro v155 w9 ho hb hg hat; rw [← Ny154.out] at ho; replace BK149 := uD (blk_grown (g := gb149) (o := .cells #[.int .i64 a0_0, .int .i64 a0_1, .bool a0_2, .slice A0_3 l0_3.length c0_3] 29 (0, 0)) (pk BK149) hg (Kd.R_ne HO153.out BK149.out (by decide))); replace BK150 := uD (blk_grown (g := gb150) (o := .cells #[.int .i64 0, .int .i64 0, .bool false, .slice none 0 0] 29 (0, 0)) (pk BK150) hg (Kd.R_ne HO153.out BK150.out (by decide))); replace HB := uD (hb); have HO156 := uD (ho); clear HO153; clear ho hb hg hat; obtain ⟨Ao10, co10, eo10⟩ := Kd.R_slice HO156.out; subst eo10; obtain ⟨hcz11_0, hcz11_1, hcz11_2, hcz11_3, hfz11_0, hfz11_1, hfz11_2, hfz11_3⟩ := cz4 BK149; obtain ⟨hcz12_0, hcz12_1, hcz12_2, hcz12_3, hfz12_0, hfz12_1, hfz12_2, hfz12_3⟩ := cz4 BK150))
  refine bodyPost_ret (results_cell_row rfl _ _ gb150 29 #[.int .i64 a0_0, .int .i64 a0_1, .bool a0_2, .slice Ao10 y154.length co10] (0, 0) _ rfl (by (with_reducible repeat (first | refine uH ?_ _ | refine uJ ?_ | refine uG ?_ _)); refine uP (cs := #[.int .i64 a0_0, .int .i64 a0_1, .bool a0_2, .slice none 0 0]) ?_ 3 _ rfl; (with_reducible repeat (first | refine uH ?_ _ | refine uJ ?_ | refine uG ?_ _)); refine uP (cs := #[.int .i64 a0_0, .int .i64 a0_1, .bool false, .slice none 0 0]) ?_ 2 _ rfl; (with_reducible repeat (first | refine uH ?_ _ | refine uJ ?_ | refine uG ?_ _)); refine uP (cs := #[.int .i64 a0_0, .int .i64 0, .bool false, .slice none 0 0]) ?_ 1 _ rfl; (with_reducible repeat (first | refine uH ?_ _ | refine uJ ?_ | refine uG ?_ _)); refine uP (cs := #[.int .i64 0, .int .i64 0, .bool false, .slice none 0 0]) ?_ 0 _ rfl; (with_reducible repeat (first | refine uH ?_ _ | refine uJ ?_ | refine uG ?_ _)); refine uQ ?_ NB150_149.out _; (with_reducible repeat (first | refine uH ?_ _ | refine uJ ?_ | refine uG ?_ _)); exact BK150.out) Try.underlying29 rfl (by kernel_rfl)) rfl ?_
  exact ⟨_, by first | rfl | (simp [errW_none, errW_some] <;> rfl) | (simp [*, errW_none, errW_some] <;> rfl), by (with_reducible repeat (first | apply uU | apply uS | apply uT)); exact uX (uV (p := ⟨gb150, 3, none⟩) (uV (p := ⟨gb150, 2, none⟩) (uV (p := ⟨gb150, 1, none⟩) (uV (p := ⟨gb150, 0, none⟩) (uV (p := ⟨gb149, 3, none⟩) (uW (uW HO156.out BK149.out (by decide)) BK150.out (by decide)) (fun _ hk => hk.1.2) (.slice Ao10 y154.length co10)) (fun _ hk => hk.2) (.int .i64 a0_0)) (fun _ hk => hk.2) (.int .i64 a0_1)) (fun _ hk => hk.2) (.bool a0_2)) (fun _ hk => hk.2) (.slice Ao10 y154.length co10)) (fun _ hk => trivial), pb HB⟩
 ·rw [if_neg c2] at H
  exact absurd H (by simp)

/-! ### spec_Leave: function 26 -/
def spec_Leave.f (k : Nat) (a0_0 : Int) (a0_1 : Int) (a0_2 : Bool) (l0_3 : List (S53)) : Option (Int × Int × Bool × (List (S53)) × Int × Bool) := (spec_l02Fresh.f a0_0 a0_1 a0_2 l0_3).bind fun bt159 => ((spec_BeltOk.f k bt159.1 bt159.2.1 bt159.2.2.1 bt159.2.2.2).bind fun t165 => (if t165 = true then (if bt159.2.2.1 = true then (some (bt159.1, bt159.2.1, bt159.2.2.1, bt159.2.2.2, 0, false)) else (if (bt159.2.2.2.length : Int) = 0 then (some (bt159.1, bt159.2.1, bt159.2.2.1, bt159.2.2.2, 0, false)) else (if 0 < (bt159.2.2.2.length : Int) then (if ((rd_T53 bt159.2.2.2 0).f1) < bt159.1 then (some (bt159.1, bt159.2.1, bt159.2.2.1, bt159.2.2.2, 0, false)) else ((some (([] : List (S53)) : List (S53))).bind fun y168 => (if 1 ≤ (bt159.2.2.2.length : Int) then ((some (bt159.2.2.2.drop 1 : List (S53))).bind fun y171 => (if y168.length + y171.length < 5864062014805 then (some (bt159.1, bt159.2.1, bt159.2.2.1, (y168 ++ y171), (rd_T53 bt159.2.2.2 0).f0, true)) else (none))) else (none)))) else (none)))) else (some (bt159.1, bt159.2.1, bt159.2.2.1, bt159.2.2.2, 0, false))))
theorem spec_Leave.mono : ∀ a0 a1 a2 a3 k, LeO (spec_Leave.f k a0 a1 a2 a3) (spec_Leave.f (k + 1) a0 a1 a2 a3) := by
 intro a0 a1 a2 a3 k
 unfold spec_Leave.f
 repeat' first
   | (with_reducible exact spec_BeltOk.mono _ _ _ _ _)
   | (with_reducible exact LeO.refl _)
   | (with_reducible exact LeO.none _)
   | (with_reducible refine LeO.ite ?_ ?_)
   | (with_reducible refine LeO.bind ?_ (fun _ => ?_))
   | exact spec_BeltOk.mono _ _ _ _ _
   | exact LeO.none _
   | refine LeO.ite ?_ ?_
   | refine LeO.bind ?_ (fun _ => ?_)
def spec_Leave.T2 : Bool × List (List Nat × List Nat) := (true, [([], []), ([0], [0]), ([1], [1]), ([2, 1], [2]), ([3], [3]), ([4, 3], [3, 4]), ([3, 5], [3, 5]), ([6, 3], [6]), ([7], [7]), ([8, 7], [7, 8]), ([9, 7], [7, 9]), ([10, 7], [7, 10]), ([7, 11], [7, 11]), ([12, 7], [12]), ([13], [13]), ([14, 13], [13, 14]), ([15, 13], [13, 15]), ([16, 13], [13, 16]), ([17, 13], [13, 17]), ([13], [13]), ([19, 13], [13, 19]), ([18, 20, 13], [13, 18, 20]), ([13, 21], [13, 21])])
def spec_Leave.B2 : List Nat := [0, 1, 3, 7, 15, 31, 63, 127, 255, 511, 1023, 2047, 4095, 8191, 16383, 32767, 65535, 131071, 262143, 16383, 540671, 2097151, 4194303]
theorem spec_Leave.tab2 : rtab .any (opsOf Try.f26 2) = spec_Leave.T2 := by kernel_rfl
theorem spec_Leave.bits2 : waitsOk spec_Leave.T2.2 spec_Leave.B2 = true := by kernel_rfl
set_option maxHeartbeats 8000000 in
set_option maxRecDepth 100000 in
theorem spec_Leave.calls (k : Nat) (a0_0 : Int) (a0_1 : Int) (a0_2 : Bool) (A0_3 : Option Addr) (c0_3 : Nat) (l0_3 : List (S53)) (r1 : Int) (r2 : Int) (r3 : Bool) (r4 : List (S53)) (r5 : Int) (r6 : Bool) (w : World) (hr0_3 : Kd.C k53 w A0_3 l0_3.length l0_3) (hc0_3 : l0_3.length ≤ c0_3) (h : spec_Leave.f k a0_0 a0_1 a0_2 l0_3 = some (r1, r2, r3, r4, r5, r6)) :
  Calls Try.prog 26 #[.agg #[.int .i64 a0_0, .int .i64 a0_1, .bool a0_2, .slice A0_3 l0_3.length c0_3]] w fun e w' => ∃ v3_ : Value, e = .returned (.tuple #[.agg #[.int .i64 r1, .int .i64 r2, .bool r3, v3_], .int .i64 r5, .bool r6]) ∧ Kd.R k53 53 w' w.heap.size (fun _ => True) v3_ r4 ∧ Below w.heap.size w w' := by
 have hu29 := Try.underlying29
 have HR0_3 := uD hr0_3
 have HC0_3 := uD hc0_3
 clear hr0_3 hc0_3
 have HB := uD (Below.refl w.heap.size w)
 have H : ((spec_l02Fresh.f a0_0 a0_1 a0_2 l0_3).bind fun bt159 => ((spec_BeltOk.f k bt159.1 bt159.2.1 bt159.2.2.1 bt159.2.2.2).bind fun t165 => (if t165 = true then (if bt159.2.2.1 = true then (some (bt159.1, bt159.2.1, bt159.2.2.1, bt159.2.2.2, 0, false)) else (if (bt159.2.2.2.length : Int) = 0 then (some (bt159.1, bt159.2.1, bt159.2.2.1, bt159.2.2.2, 0, false)) else (if 0 < (bt159.2.2.2.length : Int) then (if ((rd_T53 bt159.2.2.2 0).f1) < bt159.1 then (some (bt159.1, bt159.2.1, bt159.2.2.1, bt159.2.2.2, 0, false)) else ((some (([] : List (S53)) : List (S53))).bind fun y168 => (if 1 ≤ (bt159.2.2.2.length : Int) then ((some (bt159.2.2.2.drop 1 : List (S53))).bind fun y171 => (if y168.length + y171.length < 5864062014805 then (some (bt159.1, bt159.2.1, bt159.2.2.1, (y168 ++ y171), (rd_T53 bt159.2.2.2 0).f0, true)) else (none))) else (none)))) else (none)))) else (some (bt159.1, bt159.2.1, bt159.2.2.1, bt159.2.2.2, 0, false))))) = some (r1, r2, r3, r4, r5, r6) := h
 clear h
 replace H := Option.bind_eq_some_iff.mp H
 obtain ⟨⟨t159, t160, t161, t162⟩, A20, H⟩ := H
 replace H : ((spec_BeltOk.f k t159 t160 t161 t162).bind fun t165 => (if t165 = true then (if t161 = true then (some (t159, t160, t161, t162, 0, false)) else (if (t162.length : Int) = 0 then (some (t159, t160, t161, t162, 0, false)) else (if 0 < (t162.length : Int) then (if ((rd_T53 t162 0).f1) < t159 then (some (t159, t160, t161, t162, 0, false)) else ((some (([] : List (S53)) : List (S53))).bind fun y168 => (if 1 ≤ (t162.length : Int) then ((some (t162.drop 1 : List (S53))).bind fun y171 => (if y168.length + y171.length < 5864062014805 then (some (t159, t160, t161, (y168 ++ y171), (rd_T53 t162 0).f0, true)) else (none))) else (none)))) else (none)))) else (some (t159, t160, t161, t162, 0, false)))) = some (r1, r2, r3, r4, r5, r6) := H
 have A2 := uD A20
 clear A20
 replace H := Option.bind_eq_some_iff.mp H
 obtain ⟨t165, A30, H⟩ := H
 replace H : (if t165 = true then (if t161 = true then (some (t159, t160, t161, t162, 0, false)) else (if (t162.length : Int) = 0 then (some (t159, t160, t161, t162, 0, false)) else (if 0 < (t162.length : Int) then (if ((rd_T53 t162 0).f1) < t159 then (some (t159, t160, t161, t162, 0, false)) else ((some (([] : List (S53)) : List (S53))).bind fun y168 => (if 1 ≤ (t162.length : Int) then ((some (t162.drop 1 : List (S53))).bind fun y171 => (if y168.length + y171.length < 5864062014805 then (some (t159, t160, t161, (y168 ++ y171), (rd_T53 t162 0).f0, true)) else (none))) else (none)))) else (none)))) else (some (t159, t160, t161, t162, 0, false))) = some (r1, r2, r3, r4, r5, r6) := H
 have A3 := uD A30
 clear A30
 by_cases c4 : t165 = true
 ·subst c4
  have H1 : (if t161 = true then (some (t159, t160, t161, t162, 0, false)) else (if (t162.length : Int) = 0 then (some (t159, t160, t161, t162, 0, false)) else (if 0 < (t162.length : Int) then (if ((rd_T53 t162 0).f1) < t159 then (some (t159, t160, t161, t162, 0, false)) else ((some (([] : List (S53)) : List (S53))).bind fun y168 => (if 1 ≤ (t162.length : Int) then ((some (t162.drop 1 : List (S53))).bind fun y171 => (if y168.length + y171.length < 5864062014805 then (some (t159, t160, t161, (y168 ++ y171), (rd_T53 t162 0).f0, true)) else (none))) else (none)))) else (none)))) = some (r1, r2, r3, r4, r5, r6) := by rw [if_pos rfl] at H; first | done | exact H
  clear H
  have H := H1
  clear H1
  by_cases c5 : t161 = true
  ·subst c5
   have H1 : (some (t159, t160, true, t162, 0, false)) = some (r1, r2, r3, r4, r5, r6) := by rw [if_pos rfl] at H; first | done | exact H
   clear H
   have H := H1
   clear H1
   simp only [Option.some.injEq, Prod.mk.injEq] at H
   obtain ⟨rfl, rfl, rfl, rfl, rfl, rfl⟩ := H
   go_enter Try.func26, Try.ntmps26
   try go_wp2_with (first | ((with_reducible refine gate_dst (N := 1) rfl ?_); (try (refine gate_guard (by rfl) ?_; dsimp only)); refine box_event ?hg (N := 1) ?hd (cs := #[.int .i64 a0_0, .int .i64 a0_1, .bool a0_2, .slice A0_3 l0_3.length c0_3]) (t := 29) ?hr ?_; (case hd => rfl); (case hg => rfl); (case hr => first | (go_simp; done) | (go_simp; rfl)); intro gb157 hg w6 hbox hb; have BK157 := uD (hbox); have GW157 := uD ((by rw [hg]; exact (uN (pb HB)) : w.heap.size ≤ gb157)); have GE157 := uD ((by rw [hg]; exact (uN (pb HB)) : w.heap.size ≤ gb157)); replace HB := uD (uO (pb HB) hb); clear hb hbox hg) | ((with_reducible refine gate_dst (N := 2) rfl ?_); (try (refine gate_guard (by rfl) ?_; dsimp only)); refine box_event ?hg (N := 2) ?hd (cs := #[.int .i64 0, .int .i64 0, .bool false, .slice none 0 0]) (t := 29) ?hr ?_; (case hd => rfl); (case hg => rfl); (case hr => first | (go_simp; done) | (go_simp; rfl)); intro gb158 hg w7 hbox hb; have BK158 := uD (hbox); have GW158 := uD ((by rw [hg]; exact (uN (pb HB)) : w.heap.size ≤ gb158)); have GE158 := uD ((by rw [hg]; exact (uN (pb HB)) : w.heap.size ≤ gb158)); replace HB := uD (uO (pb HB) hb); have NB157_158 := uD ((by rw [hg]; exact Nat.ne_of_lt (blk_lt (g := gb157) (o := .cells #[.int .i64 a0_0, .int .i64 a0_1, .bool a0_2, .slice A0_3 l0_3.length c0_3] 29 (0, 0)) (pk BK157)) : gb157 ≠ gb158)); have NB158_157 := uD ((by rw [hg]; exact Nat.ne_of_gt (blk_lt (g := gb157) (o := .cells #[.int .i64 a0_0, .int .i64 a0_1, .bool a0_2, .slice A0_3 l0_3.length c0_3] 29 (0, 0)) (pk BK157)) : gb158 ≠ gb157)); replace BK157 := uD (blk_below (pk BK157) hb); clear hb hbox hg; have hnb8 := NB157_158.out; have hnc8 := NB158_157.out; obtain ⟨hcz9_0, hcz9_1, hcz9_2, hcz9_3, hfz9_0, hfz9_1, hfz9_2, hfz9_3⟩ := cz4 BK157) | ((with_reducible refine gate_callee (f := 55) rfl ?_); refine goesL_ (some 7) rfl rfl Try.func55 (by kernel_rfl) rfl #[.agg #[.int .i64 a0_0, .int .i64 a0_1, .bool a0_2, .slice A0_3 l0_3.length c0_3]] rfl (by (try simp only [List.map_toArray, List.map_cons, List.map_nil]); first | done | rfl | (simp only [List.length_drop, List.length_take]; rfl)) ?_; (with_reducible refine (spec_l02Fresh.calls a0_0 a0_1 a0_2 _ _ l0_3 t159 t160 true t162 _ ?side1 ?side2 A2.out).mono ?_); (case side1 => repeat (first | exact (Kd.C_below HR0_3.out HB.out) | (with_reducible refine Kd.C_alloc ?_ _) | (with_reducible refine Kd.C_drewN ?_ _) | (with_reducible refine Kd.C_drew ?_))); (case side2 => exact HC0_3.out); rintro e w10 ⟨v163, rfl, ho0, hb⟩; refine ⟨_, rfl, ?_⟩; have HO164 := uD (Kd.R_lower ho0 (uN (pb HB))); replace BK157 := uD (blk_below (pk BK157) hb); replace BK158 := uD (blk_below (pk BK158) hb); replace HB := uD (uO (pb HB) hb); (try clear hb); (try clear hb2); (try clear hk); (try clear hi); (try clear ho0); obtain ⟨hcz11_0, hcz11_1, hcz11_2, hcz11_3, hfz11_0, hfz11_1, hfz11_2, hfz11_3⟩ := cz4 BK157; obtain ⟨Ao12, co12, eo12⟩ := Kd.R_slice HO164.out; subst eo12))
   have n0_ : Aside0 (Kd.R k53 53 ((((w10.setCell ⟨gb157, 0, none⟩ (.int .i64 t159)).setCell ⟨gb157, 1, none⟩ (.int .i64 t160)).setCell ⟨gb157, 2, none⟩ (.bool true)).setCell ⟨gb157, 3, none⟩ (.slice Ao12 t162.length co12)) w.heap.size (fun _ => True) (.slice Ao12 t162.length co12) t162) := ⟨by (with_reducible repeat (first | apply uU | apply uS | apply uT)); exact uX (uV (p := ⟨gb157, 3, none⟩) (uV (p := ⟨gb157, 2, none⟩) (uV (p := ⟨gb157, 1, none⟩) (uV (p := ⟨gb157, 0, none⟩) (uW HO164.out BK157.out (by decide)) (fun _ hk => hk.2) (.int .i64 t159)) (fun _ hk => hk.2) (.int .i64 t160)) (fun _ hk => hk.2) (.bool true)) (fun _ hk => hk.2) (.slice Ao12 t162.length co12)) (fun _ hk => trivial)⟩
   have n1_ : Aside0 (((((w10.setCell ⟨gb157, 0, none⟩ (.int .i64 t159)).setCell ⟨gb157, 1, none⟩ (.int .i64 t160)).setCell ⟨gb157, 2, none⟩ (.bool true)).setCell ⟨gb157, 3, none⟩ (.slice Ao12 t162.length co12)).heap[gb157]? = some (.cells #[.int .i64 t159, .int .i64 t160, .bool true, .slice Ao12 t162.length co12] 29 (0, 0))) := ⟨by (with_reducible repeat (first | refine uH ?_ _ | refine uJ ?_ | refine uG ?_ _)); refine uP (cs := #[.int .i64 t159, .int .i64 t160, .bool true, .slice A0_3 l0_3.length c0_3]) ?_ 3 _ rfl; (with_reducible repeat (first | refine uH ?_ _ | refine uJ ?_ | refine uG ?_ _)); refine uP (cs := #[.int .i64 t159, .int .i64 t160, .bool a0_2, .slice A0_3 l0_3.length c0_3]) ?_ 2 _ rfl; (with_reducible repeat (first | refine uH ?_ _ | refine uJ ?_ | refine uG ?_ _)); refine uP (cs := #[.int .i64 t159, .int .i64 a0_1, .bool a0_2, .slice A0_3 l0_3.length c0_3]) ?_ 1 _ rfl; (with_reducible repeat (first | refine uH ?_ _ | refine uJ ?_ | refine uG ?_ _)); refine uP (cs := #[.int .i64 a0_0, .int .i64 a0_1, .bool a0_2, .slice A0_3 l0_3.length c0_3]) ?_ 0 _ rfl; (with_reducible repeat (first | refine uH ?_ _ | refine uJ ?_ | refine uG ?_ _)); exact BK157.out⟩
   have n2_ : Aside0 (((((w10.setCell ⟨gb157, 0, none⟩ (.int .i64 t159)).setCell ⟨gb157, 1, none⟩ (.int .i64 t160)).setCell ⟨gb157, 2, none⟩ (.bool true)).setCell ⟨gb157, 3, none⟩ (.slice Ao12 t162.length co12)).heap[gb158]? = some (.cells #[.int .i64 0, .int .i64 0, .bool false, .slice none 0 0] 29 (0, 0))) := ⟨by (with_reducible repeat (first | refine uH ?_ _ | refine uJ ?_ | refine uG ?_ _)); refine uQ ?_ NB158_157.out _; (with_reducible repeat (first | refine uH ?_ _ | refine uJ ?_ | refine uG ?_ _)); refine uQ ?_ NB158_157.out _; (with_reducible repeat (first | refine uH ?_ _ | refine uJ ?_ | refine uG ?_ _)); refine uQ ?_ NB158_157.out _; (with_reducible repeat (first | refine uH ?_ _ | refine uJ ?_ | refine uG ?_ _)); refine uQ ?_ NB158_157.out _; (with_reducible repeat (first | refine uH ?_ _ | refine uJ ?_ | refine uG ?_ _)); exact BK158.out⟩
   have n3_ : Aside0 (Below w.heap.size w ((((w10.setCell ⟨gb157, 0, none⟩ (.int .i64 t159)).setCell ⟨gb157, 1, none⟩ (.int .i64 t160)).setCell ⟨gb157, 2, none⟩ (.bool true)).setCell ⟨gb157, 3, none⟩ (.slice Ao12 t162.length co12))) := ⟨pb HB⟩
   (try clear HO164)
   (try clear BK157)
   (try clear BK158)
   (try clear HB)
   generalize ((((w10.setCell ⟨gb157, 0, none⟩ (.int .i64 t159)).setCell ⟨gb157, 1, none⟩ (.int .i64 t160)).setCell ⟨gb157, 2, none⟩ (.bool true)).setCell ⟨gb157, 3, none⟩ (.slice Ao12 t162.length co12)) = w13 at n0_ n1_ n2_ n3_ ⊢
   have HO164 := n0_
   have BK157 := n1_
   have BK158 := n2_
   have HB := n3_
   clear n0_ n1_ n2_ n3_
   replace HO164 := uD (uT HO164.out)
   replace BK157 := uD (uJ BK157.out)
   replace BK158 := uD (uJ BK158.out)
   replace HB := uD (uK HB.out)
   refine start_ (n := 23) (S := fun w' => w'.cell? ⟨gb157, 0, none⟩ = some (.int .i64 t159) ∧ w'.cell? ⟨gb157, 1, none⟩ = some (.int .i64 t160) ∧ w'.cell? ⟨gb157, 2, none⟩ = some (.bool true) ∧ w'.cell? ⟨gb157, 3, none⟩ = some (.slice Ao12 t162.length co12)) (ds := []) #[F,F,F,F,F,F,F,F,F,F,F,F,F,F,F,F,F,F,F,F,F,F,F] (by kernel_rfl) rfl rfl ⟨(uF BK157.out 0).trans rfl, (uF BK157.out 1).trans rfl, (uF BK157.out 2).trans rfl, (uF BK157.out 3).trans rfl⟩ (fun hHeld => ?_); refine with_tabW spec_Leave.tab2 spec_Leave.bits2 (fun HT_ HW_ => ?_)
   generalize w13.drew = w14 at HO164 BK157 BK158 HB HO164 hHeld ⊢
   refine take_ (i := 0) (N := some 8) (v := ?_) (a' := ?_) #[T,F,F,F,F,F,F,F,F,F,F,F,F,F,F,F,F,F,F,F,F,F,F] rfl rfl (take_ofW HT_.out HW_.out (by kernel_rfl)) (fun _ _ _ h => h) (Or.inl ⟨by rfl, ?_⟩) hHeld ?_ ?_
   rotate_left;(rintro w' ⟨s0, s1, s2, s3⟩;go_simp;with_reducible rfl);rotate_left;(simp only [uc,uA,uB,uC,uZ,ua];rfl)
   refine one_ (i := 1) (N := some 9) #[T,T,F,F,F,F,F,F,F,F,F,F,F,F,F,F,F,F,F,F,F,F,F] rfl rfl (one_of HT_.out (by kernel_rfl)) (by decide) (fun K hK => ?_)
   refine goes_ Try.func16 (by kernel_rfl) rfl #[.agg #[.int .i64 t159, .int .i64 t160, .bool true, .slice Ao12 t162.length co12]] (by rfl) rfl rfl (by (try simp only [List.map_toArray, List.map_cons, List.map_nil]); first | done | rfl | (simp only [List.length_drop, List.length_take]; rfl)) ?_
   with_reducible refine (spec_BeltOk.calls k t159 t160 true _ _ t162 true _ ?side1 ?side2 A3.out).mono ?_
   (case side1 => repeat (first | exact (Kd.R_reads' HO164.out).2.2 | (with_reducible refine Kd.C_alloc ?_ _) | (with_reducible refine Kd.C_drewN ?_ _) | (with_reducible refine Kd.C_drew ?_)))
   (case side2 => exact (Kd.R_reads' HO164.out).2.1)
   rintro e w15 ⟨rfl, hb⟩
   refine ⟨_, rfl, ?_⟩
   replace HO164 := uD (Kd.R_below (pr HO164) hb)
   replace BK157 := uD (blk_below (pk BK157) hb)
   replace BK158 := uD (blk_below (pk BK158) hb)
   replace HB := uD (uO (pb HB) hb)
   (try clear hb)
   (try clear hb2)
   (try clear hk)
   (try clear hi)
   refine hK.out _ _ ⟨(uF BK157.out 0).trans rfl, (uF BK157.out 1).trans rfl, (uF BK157.out 2).trans rfl, (uF BK157.out 3).trans rfl⟩ (fun hHeld => ?_)
   clear hK K
   refine norm_ (a' := ?_) ?_ ?_
   rotate_left
   ·show uc _ (some 9) _ = _
    simp only [uc, uA, uB, uC, uZ, ua]
    rfl
   refine ub (i := 2) (N := some 10) (v := ?_) (a' := ?_) #[T,T,T,F,F,F,F,F,F,F,F,F,F,F,F,F,F,F,F,F,F,F,F] rfl rfl (uY HT_.out (by kernel_rfl)) (fun _ _ _ h => h) (Or.inl ⟨by rfl, ?_⟩) ?_ ?_
   rotate_left;(intro w';go_simp;with_reducible rfl);rotate_left;(simp only [uc,uA,uB,uC,uZ,ua];rfl)
   refine ub (i := 3) (N := some 11) (v := ?_) (a' := ?_) #[T,T,T,T,F,F,F,F,F,F,F,F,F,F,F,F,F,F,F,F,F,F,F] rfl rfl (uY HT_.out (by kernel_rfl)) (fun _ _ _ h => h) (Or.inl ⟨by rfl, ?_⟩) ?_ ?_
   rotate_left;(intro w';go_simp;with_reducible rfl);rotate_left;(simp only [uc,uA,uB,uC,uZ,ua];rfl)
   refine ub (i := 4) (N := some 12) (v := ?_) (a' := ?_) #[T,T,T,T,T,F,F,F,F,F,F,F,F,F,F,F,F,F,F,F,F,F,F] rfl rfl (uY HT_.out (by kernel_rfl)) (fun _ _ _ h => h) (Or.inl ⟨by rfl, ?_⟩) ?_ ?_
   rotate_left;(intro w';go_simp;with_reducible rfl);rotate_left;(simp only [uc,uA,uB,uC,uZ,ua];rfl)
   refine take_ (i := 5) (N := some 13) (v := ?_) (a' := ?_) #[T,T,T,T,T,T,F,F,F,F,F,F,F,F,F,F,F,F,F,F,F,F,F] rfl rfl (take_ofW HT_.out HW_.out (by kernel_rfl)) (fun _ _ _ h => h) (Or.inl ⟨by rfl, ?_⟩) hHeld ?_ ?_
   rotate_left;(rintro w' ⟨s0, s1, s2, s3⟩;go_simp;with_reducible rfl);rotate_left;(simp only [uc,uA,uB,uC,uZ,ua];rfl)
   refine ub (i := 6) (N := some 14) (v := ?_) (a' := ?_) #[T,T,T,T,T,T,T,F,F,F,F,F,F,F,F,F,F,F,F,F,F,F,F] rfl rfl (uY HT_.out (by kernel_rfl)) (fun _ _ _ h => h) (Or.inl ⟨by rfl, ?_⟩) ?_ ?_
   rotate_left;(intro w';go_simp;with_reducible rfl);rotate_left;(simp only [uc,uA,uB,uC,uZ,ua];rfl)
   refine ub (i := 7) (N := some 15) (v := ?_) (a' := ?_) #[T,T,T,T,T,T,T,T,F,F,F,F,F,F,F,F,F,F,F,F,F,F,F] rfl rfl (uY HT_.out (by kernel_rfl)) (fun _ _ _ h => h) (Or.inl ⟨by rfl, ?_⟩) ?_ ?_
   rotate_left;(intro w';go_simp;with_reducible rfl);rotate_left;(simp only [uc,uA,uB,uC,uZ,ua];rfl)
   refine ub (i := 8) (N := some 16) (v := undef) (a' := ?_) #[T,T,T,T,T,T,T,T,T,F,F,F,F,F,F,F,F,F,F,F,F,F,F] rfl rfl (uY HT_.out (by kernel_rfl)) (fun _ _ _ h => h) (Or.inr ⟨by rfl, rfl⟩) ?_ ?_
   rotate_left
   ·simp only [uc, uA, uB, uC, uZ, ua]
    rfl
   refine ub (i := 9) (N := some 17) (v := undef) (a' := ?_) #[T,T,T,T,T,T,T,T,T,T,F,F,F,F,F,F,F,F,F,F,F,F,F] rfl rfl (uY HT_.out (by kernel_rfl)) (fun _ _ _ h => h) (Or.inr ⟨by rfl, rfl⟩) ?_ ?_
   rotate_left
   ·simp only [uc, uA, uB, uC, uZ, ua]
    rfl
   refine ub (i := 10) (N := some 18) (v := undef) (a' := ?_) #[T,T,T,T,T,T,T,T,T,T,T,F,F,F,F,F,F,F,F,F,F,F,F] rfl rfl (uY HT_.out (by kernel_rfl)) (fun _ _ _ h => h) (Or.inr ⟨by rfl, rfl⟩) ?_ ?_
   rotate_left
   ·simp only [uc, uA, uB, uC, uZ, ua]
    rfl
   refine ub (i := 11) (N := some 19) (v := undef) (a' := ?_) #[T,T,T,T,T,T,T,T,T,T,T,T,F,F,F,F,F,F,F,F,F,F,F] rfl rfl (uY HT_.out (by kernel_rfl)) (fun _ _ _ h => h) (Or.inr ⟨by rfl, rfl⟩) ?_ ?_
   rotate_left
   ·simp only [uc, uA, uB, uC, uZ, ua]
    rfl
   refine ub (i := 12) (N := some 20) (v := ?_) (a' := ?_) #[T,T,T,T,T,T,T,T,T,T,T,T,T,F,F,F,F,F,F,F,F,F,F] rfl rfl (uY HT_.out (by kernel_rfl)) (fun _ _ _ h => h) (Or.inl ⟨by rfl, ?_⟩) ?_ ?_
   rotate_left;(intro w';go_simp;with_reducible rfl);rotate_left;(simp only [uc,uA,uB,uC,uZ,ua];rfl)
   refine ub (i := 13) (N := some 21) (v := ?_) (a' := ?_) #[T,T,T,T,T,T,T,T,T,T,T,T,T,T,F,F,F,F,F,F,F,F,F] rfl rfl (uY HT_.out (by kernel_rfl)) (fun _ _ _ h => h) (Or.inl ⟨by rfl, ?_⟩) ?_ ?_
   rotate_left;(intro w';go_simp;with_reducible rfl);rotate_left;(simp only [uc,uA,uB,uC,uZ,ua];rfl)
   refine ub (i := 14) (N := some 22) (v := undef) (a' := ?_) #[T,T,T,T,T,T,T,T,T,T,T,T,T,T,T,F,F,F,F,F,F,F,F] rfl rfl (uY HT_.out (by kernel_rfl)) (fun _ _ _ h => h) (Or.inr ⟨by rfl, rfl⟩) ?_ ?_
   rotate_left
   ·simp only [uc, uA, uB, uC, uZ, ua]
    rfl
   refine ub (i := 15) (N := some 23) (v := undef) (a' := ?_) #[T,T,T,T,T,T,T,T,T,T,T,T,T,T,T,T,F,F,F,F,F,F,F] rfl rfl (uY HT_.out (by kernel_rfl)) (fun _ _ _ h => h) (Or.inr ⟨by rfl, rfl⟩) ?_ ?_
   rotate_left
   ·simp only [uc, uA, uB, uC, uZ, ua]
    rfl
   refine ub (i := 16) (N := some 24) (v := undef) (a' := ?_) #[T,T,T,T,T,T,T,T,T,T,T,T,T,T,T,T,T,F,F,F,F,F,F] rfl rfl (uY HT_.out (by kernel_rfl)) (fun _ _ _ h => h) (Or.inr ⟨by rfl, rfl⟩) ?_ ?_
   rotate_left
   ·simp only [uc, uA, uB, uC, uZ, ua]
    rfl
   refine ub (i := 17) (N := some 25) (v := undef) (a' := ?_) #[T,T,T,T,T,T,T,T,T,T,T,T,T,T,T,T,T,T,F,F,F,F,F] rfl rfl (uY HT_.out (by kernel_rfl)) (fun _ _ _ h => h) (Or.inr ⟨by rfl, rfl⟩) ?_ ?_
   rotate_left
   ·simp only [uc, uA, uB, uC, uZ, ua]
    rfl
   refine ub (i := 18) (N := some 26) (v := undef) (a' := ?_) #[T,T,T,T,T,T,T,T,T,T,T,T,T,T,T,T,T,T,T,F,F,F,F] rfl rfl (uY HT_.out (by kernel_rfl)) (fun _ _ _ h => h) (Or.inr ⟨by rfl, rfl⟩) ?_ ?_
   rotate_left
   ·simp only [uc, uA, uB, uC, uZ, ua]
    rfl
   refine ub (i := 19) (N := some 27) (v := undef) (a' := ?_) #[T,T,T,T,T,T,T,T,T,T,T,T,T,T,T,T,T,T,T,T,F,F,F] rfl rfl (uY HT_.out (by kernel_rfl)) (fun _ _ _ h => h) (Or.inr ⟨by rfl, rfl⟩) ?_ ?_
   rotate_left
   ·simp only [uc, uA, uB, uC, uZ, ua]
    rfl
   refine ub (i := 20) (N := some 28) (v := undef) (a' := ?_) #[T,T,T,T,T,T,T,T,T,T,T,T,T,T,T,T,T,T,T,T,T,F,F] rfl rfl (uY HT_.out (by kernel_rfl)) (fun _ _ _ h => h) (Or.inr ⟨by rfl, rfl⟩) ?_ ?_
   rotate_left
   ·simp only [uc, uA, uB, uC, uZ, ua]
    rfl
   refine ub (i := 21) (N := some 29) (v := undef) (a' := ?_) #[T,T,T,T,T,T,T,T,T,T,T,T,T,T,T,T,T,T,T,T,T,T,F] rfl rfl (uY HT_.out (by kernel_rfl)) (fun _ _ _ h => h) (Or.inr ⟨by rfl, rfl⟩) ?_ ?_
   rotate_left
   ·simp only [uc, uA, uB, uC, uZ, ua]
    rfl
   refine ub (i := 22) (N := some 30) (v := ?_) (a' := ?_) #[T,T,T,T,T,T,T,T,T,T,T,T,T,T,T,T,T,T,T,T,T,T,T] rfl rfl (uY HT_.out (by kernel_rfl)) (fun _ _ _ h => h) (Or.inl ⟨by rfl, ?_⟩) ?_ ?_
   rotate_left;(intro w';go_simp;with_reducible rfl);rotate_left;(simp only [uc,uA,uB,uC,uZ,ua];rfl)
   refine done_ (done_of HT_.out (by kernel_rfl)) ?_
   obtain ⟨hcz16_0, hcz16_1, hcz16_2, hcz16_3, hfz16_0, hfz16_1, hfz16_2, hfz16_3⟩ := cz4 BK157
   obtain ⟨hcz17_0, hcz17_1, hcz17_2, hcz17_3, hfz17_0, hfz17_1, hfz17_2, hfz17_3⟩ := cz4 BK158
   try go_wp2
   refine bodyPost_ret (results_ctt rfl _ _ gb158 29 #[.int .i64 t159, .int .i64 t160, .bool true, .slice Ao12 t162.length co12] (0, 0) _ rfl (by (with_reducible repeat (first | refine uH ?_ _ | refine uJ ?_ | refine uG ?_ _)); refine uP (cs := #[.int .i64 t159, .int .i64 t160, .bool true, .slice none 0 0]) ?_ 3 _ rfl; (with_reducible repeat (first | refine uH ?_ _ | refine uJ ?_ | refine uG ?_ _)); refine uP (cs := #[.int .i64 t159, .int .i64 t160, .bool false, .slice none 0 0]) ?_ 2 _ rfl; (with_reducible repeat (first | refine uH ?_ _ | refine uJ ?_ | refine uG ?_ _)); refine uP (cs := #[.int .i64 t159, .int .i64 0, .bool false, .slice none 0 0]) ?_ 1 _ rfl; (with_reducible repeat (first | refine uH ?_ _ | refine uJ ?_ | refine uG ?_ _)); refine uP (cs := #[.int .i64 0, .int .i64 0, .bool false, .slice none 0 0]) ?_ 0 _ rfl; (with_reducible repeat (first | refine uH ?_ _ | refine uJ ?_ | refine uG ?_ _)); exact BK158.out) Try.underlying29 rfl (by kernel_rfl)) rfl ?_
   exact ⟨_, by first | rfl | (simp [errW_none, errW_some] <;> rfl) | (simp [*, errW_none, errW_some] <;> rfl), by (with_reducible repeat (first | apply uU | apply uS | apply uT)); exact uX (uV (p := ⟨gb158, 3, none⟩) (uV (p := ⟨gb158, 2, none⟩) (uV (p := ⟨gb158, 1, none⟩) (uV (p := ⟨gb158, 0, none⟩) (uW HO164.out BK158.out (by decide)) (fun _ hk => hk.2) (.int .i64 t159)) (fun _ hk => hk.2) (.int .i64 t160)) (fun _ hk => hk.2) (.bool true)) (fun _ hk => hk.2) (.slice Ao12 t162.length co12)) (fun _ hk => trivial), pb HB⟩
  ·replace c5 := Bool.eq_false_iff.mpr c5
   subst c5
   have H1 : (if (t162.length : Int) = 0 then (some (t159, t160, false, t162, 0, false)) else (if 0 < (t162.length : Int) then (if ((rd_T53 t162 0).f1) < t159 then (some (t159, t160, false, t162, 0, false)) else ((some (([] : List (S53)) : List (S53))).bind fun y168 => (if 1 ≤ (t162.length : Int) then ((some (t162.drop 1 : List (S53))).bind fun y171 => (if y168.length + y171.length < 5864062014805 then (some (t159, t160, false, (y168 ++ y171), (rd_T53 t162 0).f0, true)) else (none))) else (none)))) else (none))) = some (r1, r2, r3, r4, r5, r6) := by rw [if_neg (show ¬ (false = true) by decide)] at H; first | done | exact H
   clear H
   have H := H1
   clear H1
   by_cases c18 : (t162.length : Int) = 0
   ·rw [if_pos c18] at H
    have c18b0 : ((t162.length : Int) == 0) = true := beq_iff_eq.mpr c18
    have c18b1 : ((t162.length : Int) != 0) = false := bne_eq_false_iff_eq.mpr c18
    clear c18
    simp only [Option.some.injEq, Prod.mk.injEq] at H
    obtain ⟨rfl, rfl, rfl, rfl, rfl, rfl⟩ := H
    go_enter Try.func26, Try.ntmps26
    try go_wp2_with (first | ((with_reducible refine gate_dst (N := 1) rfl ?_); (try (refine gate_guard (by rfl) ?_; dsimp only)); refine box_event ?hg (N := 1) ?hd (cs := #[.int .i64 a0_0, .int .i64 a0_1, .bool a0_2, .slice A0_3 l0_3.length c0_3]) (t := 29) ?hr ?_; (case hd => rfl); (case hg => rfl); (case hr => first | (go_simp; done) | (go_simp; rfl)); intro gb157 hg w19 hbox hb; have BK157 := uD (hbox); have GW157 := uD ((by rw [hg]; exact (uN (pb HB)) : w.heap.size ≤ gb157)); have GE157 := uD ((by rw [hg]; exact (uN (pb HB)) : w.heap.size ≤ gb157)); replace HB := uD (uO (pb HB) hb); clear hb hbox hg) | ((with_reducible refine gate_dst (N := 2) rfl ?_); (try (refine gate_guard (by rfl) ?_; dsimp only)); refine box_event ?hg (N := 2) ?hd (cs := #[.int .i64 0, .int .i64 0, .bool false, .slice none 0 0]) (t := 29) ?hr ?_; (case hd => rfl); (case hg => rfl); (case hr => first | (go_simp; done) | (go_simp; rfl)); intro gb158 hg w20 hbox hb; have BK158 := uD (hbox); have GW158 := uD ((by rw [hg]; exact (uN (pb HB)) : w.heap.size ≤ gb158)); have GE158 := uD ((by rw [hg]; exact (uN (pb HB)) : w.heap.size ≤ gb158)); replace HB := uD (uO (pb HB) hb); have NB157_158 := uD ((by rw [hg]; exact Nat.ne_of_lt (blk_lt (g := gb157) (o := .cells #[.int .i64 a0_0, .int .i64 a0_1, .bool a0_2, .slice A0_3 l0_3.length c0_3] 29 (0, 0)) (pk BK157)) : gb157 ≠ gb158)); have NB158_157 := uD ((by rw [hg]; exact Nat.ne_of_gt (blk_lt (g := gb157) (o := .cells #[.int .i64 a0_0, .int .i64 a0_1, .bool a0_2, .slice A0_3 l0_3.length c0_3] 29 (0, 0)) (pk BK157)) : gb158 ≠ gb157)); replace BK157 := uD (blk_below (pk BK157) hb); clear hb hbox hg; have hnb21 := NB157_158.out; have hnc21 := NB158_157.out; obtain ⟨hcz22_0, hcz22_1, hcz22_2, hcz22_3, hfz22_0, hfz22_1, hfz22_2, hfz22_3⟩ := cz4 BK157) | ((with_reducible refine gate_callee (f := 55) rfl ?_); refine goesL_ (some 7) rfl rfl Try.func55 (by kernel_rfl) rfl #[.agg #[.int .i64 a0_0, .int .i64 a0_1, .bool a0_2, .slice A0_3 l0_3.length c0_3]] rfl (by (try simp only [List.map_toArray, List.map_cons, List.map_nil]); first | done | rfl | (simp only [List.length_drop, List.length_take]; rfl)) ?_; (with_reducible refine (spec_l02Fresh.calls a0_0 a0_1 a0_2 _ _ l0_3 t159 t160 false t162 _ ?side1 ?side2 A2.out).mono ?_); (case side1 => repeat (first | exact (Kd.C_below HR0_3.out HB.out) | (with_reducible refine Kd.C_alloc ?_ _) | (with_reducible refine Kd.C_drewN ?_ _) | (with_reducible refine Kd.C_drew ?_))); (case side2 => exact HC0_3.out); rintro e w23 ⟨v163, rfl, ho0, hb⟩; refine ⟨_, rfl, ?_⟩; have HO164 := uD (Kd.R_lower ho0 (uN (pb HB))); replace BK157 := uD (blk_below (pk BK157) hb); replace BK158 := uD (blk_below (pk BK158) hb); replace HB := uD (uO (pb HB) hb); (try clear hb); (try clear hb2); (try clear hk); (try clear hi); (try clear ho0); obtain ⟨hcz24_0, hcz24_1, hcz24_2, hcz24_3, hfz24_0, hfz24_1, hfz24_2, hfz24_3⟩ := cz4 BK157; obtain ⟨Ao25, co25, eo25⟩ := Kd.R_slice HO164.out; subst eo25))
    have n0_ : Aside0 (Kd.R k53 53 ((((w23.setCell ⟨gb157, 0, none⟩ (.int .i64 t159)).setCell ⟨gb157, 1, none⟩ (.int .i64 t160)).setCell ⟨gb157, 2, none⟩ (.bool false)).setCell ⟨gb157, 3, none⟩ (.slice Ao25 t162.length co25)) w.heap.size (fun _ => True) (.slice Ao25 t162.length co25) t162) := ⟨by (with_reducible repeat (first | apply uU | apply uS | apply uT)); exact uX (uV (p := ⟨gb157, 3, none⟩) (uV (p := ⟨gb157, 2, none⟩) (uV (p := ⟨gb157, 1, none⟩) (uV (p := ⟨gb157, 0, none⟩) (uW HO164.out BK157.out (by decide)) (fun _ hk => hk.2) (.int .i64 t159)) (fun _ hk => hk.2) (.int .i64 t160)) (fun _ hk => hk.2) (.bool false)) (fun _ hk => hk.2) (.slice Ao25 t162.length co25)) (fun _ hk => trivial)⟩
    have n1_ : Aside0 (((((w23.setCell ⟨gb157, 0, none⟩ (.int .i64 t159)).setCell ⟨gb157, 1, none⟩ (.int .i64 t160)).setCell ⟨gb157, 2, none⟩ (.bool false)).setCell ⟨gb157, 3, none⟩ (.slice Ao25 t162.length co25)).heap[gb157]? = some (.cells #[.int .i64 t159, .int .i64 t160, .bool false, .slice Ao25 t162.length co25] 29 (0, 0))) := ⟨by (with_reducible repeat (first | refine uH ?_ _ | refine uJ ?_ | refine uG ?_ _)); refine uP (cs := #[.int .i64 t159, .int .i64 t160, .bool false, .slice A0_3 l0_3.length c0_3]) ?_ 3 _ rfl; (with_reducible repeat (first | refine uH ?_ _ | refine uJ ?_ | refine uG ?_ _)); refine uP (cs := #[.int .i64 t159, .int .i64 t160, .bool a0_2, .slice A0_3 l0_3.length c0_3]) ?_ 2 _ rfl; (with_reducible repeat (first | refine uH ?_ _ | refine uJ ?_ | refine uG ?_ _)); refine uP (cs := #[.int .i64 t159, .int .i64 a0_1, .bool a0_2, .slice A0_3 l0_3.length c0_3]) ?_ 1 _ rfl; (with_reducible repeat (first | refine uH ?_ _ | refine uJ ?_ | refine uG ?_ _)); refine uP (cs := #[.int .i64 a0_0, .int .i64 a0_1, .bool a0_2, .slice A0_3 l0_3.length c0_3]) ?_ 0 _ rfl; (with_reducible repeat (first | refine uH ?_ _ | refine uJ ?_ | refine uG ?_ _)); exact BK157.out⟩
    have n2_ : Aside0 (((((w23.setCell ⟨gb157, 0, none⟩ (.int .i64 t159)).setCell ⟨gb157, 1, none⟩ (.int .i64 t160)).setCell ⟨gb157, 2, none⟩ (.bool false)).setCell ⟨gb157, 3, none⟩ (.slice Ao25 t162.length co25)).heap[gb158]? = some (.cells #[.int .i64 0, .int .i64 0, .bool false, .slice none 0 0] 29 (0, 0))) := ⟨by (with_reducible repeat (first | refine uH ?_ _ | refine uJ ?_ | refine uG ?_ _)); refine uQ ?_ NB158_157.out _; (with_reducible repeat (first | refine uH ?_ _ | refine uJ ?_ | refine uG ?_ _)); refine uQ ?_ NB158_157.out _; (with_reducible repeat (first | refine uH ?_ _ | refine uJ ?_ | refine uG ?_ _)); refine uQ ?_ NB158_157.out _; (with_reducible repeat (first | refine uH ?_ _ | refine uJ ?_ | refine uG ?_ _)); refine uQ ?_ NB158_157.out _; (with_reducible repeat (first | refine uH ?_ _ | refine uJ ?_ | refine uG ?_ _)); exact BK158.out⟩
    have n3_ : Aside0 (Below w.heap.size w ((((w23.setCell ⟨gb157, 0, none⟩ (.int .i64 t159)).setCell ⟨gb157, 1, none⟩ (.int .i64 t160)).setCell ⟨gb157, 2, none⟩ (.bool false)).setCell ⟨gb157, 3, none⟩ (.slice Ao25 t162.length co25))) := ⟨pb HB⟩
    (try clear HO164)
    (try clear BK157)
    (try clear BK158)
    (try clear HB)
    generalize ((((w23.setCell ⟨gb157, 0, none⟩ (.int .i64 t159)).setCell ⟨gb157, 1, none⟩ (.int .i64 t160)).setCell ⟨gb157, 2, none⟩ (.bool false)).setCell ⟨gb157, 3, none⟩ (.slice Ao25 t162.length co25)) = w26 at n0_ n1_ n2_ n3_ ⊢
    have HO164 := n0_
    have BK157 := n1_
    have BK158 := n2_
    have HB := n3_
    clear n0_ n1_ n2_ n3_
    replace HO164 := uD (uT HO164.out)
    replace BK157 := uD (uJ BK157.out)
    replace BK158 := uD (uJ BK158.out)
    replace HB := uD (uK HB.out)
    refine start_ (n := 23) (S := fun w' => w'.cell? ⟨gb157, 0, none⟩ = some (.int .i64 t159) ∧ w'.cell? ⟨gb157, 1, none⟩ = some (.int .i64 t160) ∧ w'.cell? ⟨gb157, 2, none⟩ = some (.bool false) ∧ w'.cell? ⟨gb157, 3, none⟩ = some (.slice Ao25 t162.length co25)) (ds := []) #[F,F,F,F,F,F,F,F,F,F,F,F,F,F,F,F,F,F,F,F,F,F,F] (by kernel_rfl) rfl rfl ⟨(uF BK157.out 0).trans rfl, (uF BK157.out 1).trans rfl, (uF BK157.out 2).trans rfl, (uF BK157.out 3).trans rfl⟩ (fun hHeld => ?_); refine with_tabW spec_Leave.tab2 spec_Leave.bits2 (fun HT_ HW_ => ?_)
    generalize w26.drew = w27 at HO164 BK157 BK158 HB HO164 hHeld ⊢
    refine take_ (i := 0) (N := some 8) (v := ?_) (a' := ?_) #[T,F,F,F,F,F,F,F,F,F,F,F,F,F,F,F,F,F,F,F,F,F,F] rfl rfl (take_ofW HT_.out HW_.out (by kernel_rfl)) (fun _ _ _ h => h) (Or.inl ⟨by rfl, ?_⟩) hHeld ?_ ?_
    rotate_left;(rintro w' ⟨s0, s1, s2, s3⟩;go_simp;with_reducible rfl);rotate_left;(simp only [uc,uA,uB,uC,uZ,ua];rfl)
    refine one_ (i := 1) (N := some 9) #[T,T,F,F,F,F,F,F,F,F,F,F,F,F,F,F,F,F,F,F,F,F,F] rfl rfl (one_of HT_.out (by kernel_rfl)) (by decide) (fun K hK => ?_)
    refine goes_ Try.func16 (by kernel_rfl) rfl #[.agg #[.int .i64 t159, .int .i64 t160, .bool false, .slice Ao25 t162.length co25]] (by rfl) rfl rfl (by (try simp only [List.map_toArray, List.map_cons, List.map_nil]); first | done | rfl | (simp only [List.length_drop, List.length_take]; rfl)) ?_
    with_reducible refine (spec_BeltOk.calls k t159 t160 false _ _ t162 true _ ?side1 ?side2 A3.out).mono ?_
    (case side1 => repeat (first | exact (Kd.R_reads' HO164.out).2.2 | (with_reducible refine Kd.C_alloc ?_ _) | (with_reducible refine Kd.C_drewN ?_ _) | (with_reducible refine Kd.C_drew ?_)))
    (case side2 => exact (Kd.R_reads' HO164.out).2.1)
    rintro e w28 ⟨rfl, hb⟩
    refine ⟨_, rfl, ?_⟩
    replace HO164 := uD (Kd.R_below (pr HO164) hb)
    replace BK157 := uD (blk_below (pk BK157) hb)
    replace BK158 := uD (blk_below (pk BK158) hb)
    replace HB := uD (uO (pb HB) hb)
    (try clear hb)
    (try clear hb2)
    (try clear hk)
    (try clear hi)
    refine hK.out _ _ ⟨(uF BK157.out 0).trans rfl, (uF BK157.out 1).trans rfl, (uF BK157.out 2).trans rfl, (uF BK157.out 3).trans rfl⟩ (fun hHeld => ?_)
    clear hK K
    refine norm_ (a' := ?_) ?_ ?_
    rotate_left
    ·show uc _ (some 9) _ = _
     simp only [uc, uA, uB, uC, uZ, ua]
     rfl
    refine ub (i := 2) (N := some 10) (v := ?_) (a' := ?_) #[T,T,T,F,F,F,F,F,F,F,F,F,F,F,F,F,F,F,F,F,F,F,F] rfl rfl (uY HT_.out (by kernel_rfl)) (fun _ _ _ h => h) (Or.inl ⟨by rfl, ?_⟩) ?_ ?_
    rotate_left;(intro w';go_simp;with_reducible rfl);rotate_left;(simp only [uc,uA,uB,uC,uZ,ua];rfl)
    refine ub (i := 3) (N := some 11) (v := ?_) (a' := ?_) #[T,T,T,T,F,F,F,F,F,F,F,F,F,F,F,F,F,F,F,F,F,F,F] rfl rfl (uY HT_.out (by kernel_rfl)) (fun _ _ _ h => h) (Or.inl ⟨by rfl, ?_⟩) ?_ ?_
    rotate_left;(intro w';go_simp;with_reducible rfl);rotate_left;(simp only [uc,uA,uB,uC,uZ,ua];rfl)
    refine ub (i := 4) (N := some 12) (v := ?_) (a' := ?_) #[T,T,T,T,T,F,F,F,F,F,F,F,F,F,F,F,F,F,F,F,F,F,F] rfl rfl (uY HT_.out (by kernel_rfl)) (fun _ _ _ h => h) (Or.inl ⟨by rfl, ?_⟩) ?_ ?_
    rotate_left;(intro w';go_simp;with_reducible rfl);rotate_left;(simp only [uc,uA,uB,uC,uZ,ua];rfl)
    refine take_ (i := 5) (N := some 13) (v := ?_) (a' := ?_) #[T,T,T,T,T,T,F,F,F,F,F,F,F,F,F,F,F,F,F,F,F,F,F] rfl rfl (take_ofW HT_.out HW_.out (by kernel_rfl)) (fun _ _ _ h => h) (Or.inl ⟨by rfl, ?_⟩) hHeld ?_ ?_
    rotate_left;(rintro w' ⟨s0, s1, s2, s3⟩;go_simp;with_reducible rfl);rotate_left;(simp only [uc,uA,uB,uC,uZ,ua];rfl)
    refine ub (i := 6) (N := some 14) (v := ?_) (a' := ?_) #[T,T,T,T,T,T,T,F,F,F,F,F,F,F,F,F,F,F,F,F,F,F,F] rfl rfl (uY HT_.out (by kernel_rfl)) (fun _ _ _ h => h) (Or.inl ⟨by rfl, ?_⟩) ?_ ?_
    rotate_left;(intro w';go_simp;with_reducible rfl);rotate_left;(simp only [uc,uA,uB,uC,uZ,ua];rfl)
    refine ub (i := 7) (N := some 15) (v := ?_) (a' := ?_) #[T,T,T,T,T,T,T,T,F,F,F,F,F,F,F,F,F,F,F,F,F,F,F] rfl rfl (uY HT_.out (by kernel_rfl)) (fun _ _ _ h => h) (Or.inl ⟨by rfl, ?_⟩) ?_ ?_
    rotate_left;(intro w';go_simp;with_reducible rfl);rotate_left;(simp only [uc,uA,uB,uC,uZ,ua];rfl)
    refine ub (i := 8) (N := some 16) (v := ?_) (a' := ?_) #[T,T,T,T,T,T,T,T,T,F,F,F,F,F,F,F,F,F,F,F,F,F,F] rfl rfl (uY HT_.out (by kernel_rfl)) (fun _ _ _ h => h) (Or.inl ⟨by rfl, ?_⟩) ?_ ?_
    rotate_left;(intro w';go_simp;with_reducible rfl);rotate_left;(simp only [uc,uA,uB,uC,uZ,ua];rfl)
    refine take_ (i := 9) (N := some 17) (v := ?_) (a' := ?_) #[T,T,T,T,T,T,T,T,T,T,F,F,F,F,F,F,F,F,F,F,F,F,F] rfl rfl (take_ofW HT_.out HW_.out (by kernel_rfl)) (fun _ _ _ h => h) (Or.inl ⟨by rfl, ?_⟩) hHeld ?_ ?_
    rotate_left;(rintro w' ⟨s0, s1, s2, s3⟩;go_simp;with_reducible rfl);rotate_left;(simp only [uc,uA,uB,uC,uZ,ua];rfl)
    refine ub (i := 10) (N := some 18) (v := ?_) (a' := ?_) #[T,T,T,T,T,T,T,T,T,T,T,F,F,F,F,F,F,F,F,F,F,F,F] rfl rfl (uY HT_.out (by kernel_rfl)) (fun _ _ _ h => h) (Or.inl ⟨by rfl, ?_⟩) ?_ ?_
    rotate_left;(intro w';go_simp;with_reducible rfl);rotate_left;(simp only [uc,uA,uB,uC,uZ,ua];rfl)
    refine ub (i := 11) (N := some 19) (v := ?_) (a' := ?_) #[T,T,T,T,T,T,T,T,T,T,T,T,F,F,F,F,F,F,F,F,F,F,F] rfl rfl (uY HT_.out (by kernel_rfl)) (fun _ _ _ h => h) (Or.inl ⟨by rfl, ?_⟩) ?_ ?_
    rotate_left;(intro w';go_simp;with_reducible rfl);rotate_left;(simp only [uc,uA,uB,uC,uZ,ua];rfl)
    refine ub (i := 12) (N := some 20) (v := ?_) (a' := ?_) #[T,T,T,T,T,T,T,T,T,T,T,T,T,F,F,F,F,F,F,F,F,F,F] rfl rfl (uY HT_.out (by kernel_rfl)) (fun _ _ _ h => h) (Or.inl ⟨by rfl, ?_⟩) ?_ ?_
    rotate_left;(intro w';go_simp;with_reducible rfl);rotate_left;(simp only [uc,uA,uB,uC,uZ,ua];rfl)
    refine ub (i := 13) (N := some 21) (v := ?_) (a' := ?_) #[T,T,T,T,T,T,T,T,T,T,T,T,T,T,F,F,F,F,F,F,F,F,F] rfl rfl (uY HT_.out (by kernel_rfl)) (fun _ _ _ h => h) (Or.inl ⟨by rfl, ?_⟩) ?_ ?_
    rotate_left;(intro w';go_simp;with_reducible rfl);rotate_left;(simp only [uc,uA,uB,uC,uZ,ua];rfl)
    refine ub (i := 14) (N := some 22) (v := undef) (a' := ?_) #[T,T,T,T,T,T,T,T,T,T,T,T,T,T,T,F,F,F,F,F,F,F,F] rfl rfl (uY HT_.out (by kernel_rfl)) (fun _ _ _ h => h) (Or.inr ⟨by rfl, rfl⟩) ?_ ?_
    rotate_left
    ·simp only [uc, uA, uB, uC, uZ, ua]
     rfl
    refine ub (i := 15) (N := some 23) (v := undef) (a' := ?_) #[T,T,T,T,T,T,T,T,T,T,T,T,T,T,T,T,F,F,F,F,F,F,F] rfl rfl (uY HT_.out (by kernel_rfl)) (fun _ _ _ h => h) (Or.inr ⟨by rfl, rfl⟩) ?_ ?_
    rotate_left
    ·simp only [uc, uA, uB, uC, uZ, ua]
     rfl
    refine ub (i := 16) (N := some 24) (v := undef) (a' := ?_) #[T,T,T,T,T,T,T,T,T,T,T,T,T,T,T,T,T,F,F,F,F,F,F] rfl rfl (uY HT_.out (by kernel_rfl)) (fun _ _ _ h => h) (Or.inr ⟨by rfl, rfl⟩) ?_ ?_
    rotate_left
    ·simp only [uc, uA, uB, uC, uZ, ua]
     rfl
    refine ub (i := 17) (N := some 25) (v := undef) (a' := ?_) #[T,T,T,T,T,T,T,T,T,T,T,T,T,T,T,T,T,T,F,F,F,F,F] rfl rfl (uY HT_.out (by kernel_rfl)) (fun _ _ _ h => h) (Or.inr ⟨by rfl, rfl⟩) ?_ ?_
    rotate_left
    ·simp only [uc, uA, uB, uC, uZ, ua]
     rfl
    refine ub (i := 18) (N := some 26) (v := undef) (a' := ?_) #[T,T,T,T,T,T,T,T,T,T,T,T,T,T,T,T,T,T,T,F,F,F,F] rfl rfl (uY HT_.out (by kernel_rfl)) (fun _ _ _ h => h) (Or.inr ⟨by rfl, rfl⟩) ?_ ?_
    rotate_left
    ·simp only [uc, uA, uB, uC, uZ, ua]
     rfl
    refine ub (i := 19) (N := some 27) (v := undef) (a' := ?_) #[T,T,T,T,T,T,T,T,T,T,T,T,T,T,T,T,T,T,T,T,F,F,F] rfl rfl (uY HT_.out (by kernel_rfl)) (fun _ _ _ h => h) (Or.inr ⟨by rfl, rfl⟩) ?_ ?_
    rotate_left
    ·simp only [uc, uA, uB, uC, uZ, ua]
     rfl
    refine ub (i := 20) (N := some 28) (v := undef) (a' := ?_) #[T,T,T,T,T,T,T,T,T,T,T,T,T,T,T,T,T,T,T,T,T,F,F] rfl rfl (uY HT_.out (by kernel_rfl)) (fun _ _ _ h => h) (Or.inr ⟨by rfl, rfl⟩) ?_ ?_
    rotate_left
    ·simp only [uc, uA, uB, uC, uZ, ua]
     rfl
    refine ub (i := 21) (N := some 29) (v := undef) (a' := ?_) #[T,T,T,T,T,T,T,T,T,T,T,T,T,T,T,T,T,T,T,T,T,T,F] rfl rfl (uY HT_.out (by kernel_rfl)) (fun _ _ _ h => h) (Or.inr ⟨by rfl, rfl⟩) ?_ ?_
    rotate_left
    ·simp only [uc, uA, uB, uC, uZ, ua]
     rfl
    refine ub (i := 22) (N := some 30) (v := ?_) (a' := ?_) #[T,T,T,T,T,T,T,T,T,T,T,T,T,T,T,T,T,T,T,T,T,T,T] rfl rfl (uY HT_.out (by kernel_rfl)) (fun _ _ _ h => h) (Or.inl ⟨by rfl, ?_⟩) ?_ ?_
    rotate_left;(intro w';go_simp;with_reducible rfl);rotate_left;(simp only [uc,uA,uB,uC,uZ,ua];rfl)
    refine done_ (done_of HT_.out (by kernel_rfl)) ?_
    obtain ⟨hcz29_0, hcz29_1, hcz29_2, hcz29_3, hfz29_0, hfz29_1, hfz29_2, hfz29_3⟩ := cz4 BK157
    obtain ⟨hcz30_0, hcz30_1, hcz30_2, hcz30_3, hfz30_0, hfz30_1, hfz30_2, hfz30_3⟩ := cz4 BK158
    try go_wp2
    refine bodyPost_ret (results_ctt rfl _ _ gb158 29 #[.int .i64 t159, .int .i64 t160, .bool false, .slice Ao25 t162.length co25] (0, 0) _ rfl (by (with_reducible repeat (first | refine uH ?_ _ | refine uJ ?_ | refine uG ?_ _)); refine uP (cs := #[.int .i64 t159, .int .i64 t160, .bool false, .slice none 0 0]) ?_ 3 _ rfl; (with_reducible repeat (first | refine uH ?_ _ | refine uJ ?_ | refine uG ?_ _)); refine uP (cs := #[.int .i64 t159, .int .i64 t160, .bool false, .slice none 0 0]) ?_ 2 _ rfl; (with_reducible repeat (first | refine uH ?_ _ | refine uJ ?_ | refine uG ?_ _)); refine uP (cs := #[.int .i64 t159, .int .i64 0, .bool false, .slice none 0 0]) ?_ 1 _ rfl; (with_reducible repeat (first | refine uH ?_ _ | refine uJ ?_ | refine uG ?_ _)); refine uP (cs := #[.int .i64 0, .int .i64 0, .bool false, .slice none 0 0]) ?_ 0 _ rfl; (with_reducible repeat (first | refine uH ?_ _ | refine uJ ?_ | refine uG ?_ _)); exact BK158.out) Try.underlying29 rfl (by kernel_rfl)) rfl ?_
    exact ⟨_, by first | rfl | (simp [errW_none, errW_some] <;> rfl) | (simp [*, errW_none, errW_some] <;> rfl), by (with_reducible repeat (first | apply uU | apply uS | apply uT)); exact uX (uV (p := ⟨gb158, 3, none⟩) (uV (p := ⟨gb158, 2, none⟩) (uV (p := ⟨gb158, 1, none⟩) (uV (p := ⟨gb158, 0, none⟩) (uW HO164.out BK158.out (by decide)) (fun _ hk => hk.2) (.int .i64 t159)) (fun _ hk => hk.2) (.int .i64 t160)) (fun _ hk => hk.2) (.bool false)) (fun _ hk => hk.2) (.slice Ao25 t162.length co25)) (fun _ hk => trivial), pb HB⟩
   ·rw [if_neg c18] at H
    have c18b0 : ((t162.length : Int) == 0) = false := beq_eq_false_iff_ne.mpr c18
    have c18b1 : ((t162.length : Int) != 0) = true := bne_iff_ne.mpr c18
    have c18b2 : ¬ (t162 = []) := fun h_ => c18 (by rw [h_]; rfl)
    by_cases c31 : 0 < (t162.length : Int)
    ·rw [if_pos c31] at H
     have c31b0 : decide (0 < (t162.length : Int)) = true := decide_eq_true c31
     have c31b1 : decide (0 < t162.length) = true := decide_eq_true (by omega)
     clear c31
     by_cases c32 : ((rd_T53 t162 0).f1) < t159
     ·rw [if_pos c32] at H
      have c32b0 : decide (((rd_T53 t162 0).f1) < t159) = true := decide_eq_true c32
      clear c32
      simp only [Option.some.injEq, Prod.mk.injEq] at H
      obtain ⟨rfl, rfl, rfl, rfl, rfl, rfl⟩ := H
      go_enter Try.func26, Try.ntmps26
      try go_wp2_with (first | ((with_reducible refine gate_dst (N := 1) rfl ?_); (try (refine gate_guard (by rfl) ?_; dsimp only)); refine box_event ?hg (N := 1) ?hd (cs := #[.int .i64 a0_0, .int .i64 a0_1, .bool a0_2, .slice A0_3 l0_3.length c0_3]) (t := 29) ?hr ?_; (case hd => rfl); (case hg => rfl); (case hr => first | (go_simp; done) | (go_simp; rfl)); intro gb157 hg w33 hbox hb; have BK157 := uD (hbox); have GW157 := uD ((by rw [hg]; exact (uN (pb HB)) : w.heap.size ≤ gb157)); have GE157 := uD ((by rw [hg]; exact (uN (pb HB)) : w.heap.size ≤ gb157)); replace HB := uD (uO (pb HB) hb); clear hb hbox hg) | ((with_reducible refine gate_dst (N := 2) rfl ?_); (try (refine gate_guard (by rfl) ?_; dsimp only)); refine box_event ?hg (N := 2) ?hd (cs := #[.int .i64 0, .int .i64 0, .bool false, .slice none 0 0]) (t := 29) ?hr ?_; (case hd => rfl); (case hg => rfl); (case hr => first | (go_simp; done) | (go_simp; rfl)); intro gb158 hg w34 hbox hb; have BK158 := uD (hbox); have GW158 := uD ((by rw [hg]; exact (uN (pb HB)) : w.heap.size ≤ gb158)); have GE158 := uD ((by rw [hg]; exact (uN (pb HB)) : w.heap.size ≤ gb158)); replace HB := uD (uO (pb HB) hb); have NB157_158 := uD ((by rw [hg]; exact Nat.ne_of_lt (blk_lt (g := gb157) (o := .cells #[.int .i64 a0_0, .int .i64 a0_1, .bool a0_2, .slice A0_3 l0_3.length c0_3] 29 (0, 0)) (pk BK157)) : gb157 ≠ gb158)); have NB158_157 := uD ((by rw [hg]; exact Nat.ne_of_gt (blk_lt (g := gb157) (o := .cells #[.int .i64 a0_0, .int .i64 a0_1, .bool a0_2, .slice A0_3 l0_3.length c0_3] 29 (0, 0)) (pk BK157)) : gb158 ≠ gb157)); replace BK157 := uD (blk_below (pk BK157) hb); clear hb hbox hg; have hnb35 := NB157_158.out; have hnc35 := NB158_157.out; obtain ⟨hcz36_0, hcz36_1, hcz36_2, hcz36_3, hfz36_0, hfz36_1, hfz36_2, hfz36_3⟩ := cz4 BK157) | ((with_reducible refine gate_callee (f := 55) rfl ?_); refine goesL_ (some 7) rfl rfl Try.func55 (by kernel_rfl) rfl #[.agg #[.int .i64 a0_0, .int .i64 a0_1, .bool a0_2, .slice A0_3 l0_3.length c0_3]] rfl (by (try simp only [List.map_toArray, List.map_cons, List.map_nil]); first | done | rfl | (simp only [List.length_drop, List.length_take]; rfl)) ?_; (with_reducible refine (spec_l02Fresh.calls a0_0 a0_1 a0_2 _ _ l0_3 t159 t160 false t162 _ ?side1 ?side2 A2.out).mono ?_); (case side1 => repeat (first | exact (Kd.C_below HR0_3.out HB.out) | (with_reducible refine Kd.C_alloc ?_ _) | (with_reducible refine Kd.C_drewN ?_ _) | (with_reducible refine Kd.C_drew ?_))); (case side2 => exact HC0_3.out); rintro e w37 ⟨v163, rfl, ho0, hb⟩; refine ⟨_, rfl, ?_⟩; have HO164 := uD (Kd.R_lower ho0 (uN (pb HB))); replace BK157 := uD (blk_below (pk BK157) hb); replace BK158 := uD (blk_below (pk BK158) hb); replace HB := uD (uO (pb HB) hb); (try clear hb); (try clear hb2); (try clear hk); (try clear hi); (try clear ho0); obtain ⟨hcz38_0, hcz38_1, hcz38_2, hcz38_3, hfz38_0, hfz38_1, hfz38_2, hfz38_3⟩ := cz4 BK157; obtain ⟨Ao39, co39, eo39⟩ := Kd.R_slice HO164.out; subst eo39))
      have n0_ : Aside0 (Kd.R k53 53 ((((w37.setCell ⟨gb157, 0, none⟩ (.int .i64 t159)).setCell ⟨gb157, 1, none⟩ (.int .i64 t160)).setCell ⟨gb157, 2, none⟩ (.bool false)).setCell ⟨gb157, 3, none⟩ (.slice Ao39 t162.length co39)) w.heap.size (fun _ => True) (.slice Ao39 t162.length co39) t162) := ⟨by (with_reducible repeat (first | apply uU | apply uS | apply uT)); exact uX (uV (p := ⟨gb157, 3, none⟩) (uV (p := ⟨gb157, 2, none⟩) (uV (p := ⟨gb157, 1, none⟩) (uV (p := ⟨gb157, 0, none⟩) (uW HO164.out BK157.out (by decide)) (fun _ hk => hk.2) (.int .i64 t159)) (fun _ hk => hk.2) (.int .i64 t160)) (fun _ hk => hk.2) (.bool false)) (fun _ hk => hk.2) (.slice Ao39 t162.length co39)) (fun _ hk => trivial)⟩
      have n1_ : Aside0 (((((w37.setCell ⟨gb157, 0, none⟩ (.int .i64 t159)).setCell ⟨gb157, 1, none⟩ (.int .i64 t160)).setCell ⟨gb157, 2, none⟩ (.bool false)).setCell ⟨gb157, 3, none⟩ (.slice Ao39 t162.length co39)).heap[gb157]? = some (.cells #[.int .i64 t159, .int .i64 t160, .bool false, .slice Ao39 t162.length co39] 29 (0, 0))) := ⟨by (with_reducible repeat (first | refine uH ?_ _ | refine uJ ?_ | refine uG ?_ _)); refine uP (cs := #[.int .i64 t159, .int .i64 t160, .bool false, .slice A0_3 l0_3.length c0_3]) ?_ 3 _ rfl; (with_reducible repeat (first | refine uH ?_ _ | refine uJ ?_ | refine uG ?_ _)); refine uP (cs := #[.int .i64 t159, .int .i64 t160, .bool a0_2, .slice A0_3 l0_3.length c0_3]) ?_ 2 _ rfl; (with_reducible repeat (first | refine uH ?_ _ | refine uJ ?_ | refine uG ?_ _)); refine uP (cs := #[.int .i64 t159, .int .i64 a0_1, .bool a0_2, .slice A0_3 l0_3.length c0_3]) ?_ 1 _ rfl; (with_reducible repeat (first | refine uH ?_ _ | refine uJ ?_ | refine uG ?_ _)); refine uP (cs := #[.int .i64 a0_0, .int .i64 a0_1, .bool a0_2, .slice A0_3 l0_3.length c0_3]) ?_ 0 _ rfl; (with_reducible repeat (first | refine uH ?_ _ | refine uJ ?_ | refine uG ?_ _)); exact BK157.out⟩
      have n2_ : Aside0 (((((w37.setCell ⟨gb157, 0, none⟩ (.int .i64 t159)).setCell ⟨gb157, 1, none⟩ (.int .i64 t160)).setCell ⟨gb157, 2, none⟩ (.bool false)).setCell ⟨gb157, 3, none⟩ (.slice Ao39 t162.length co39)).heap[gb158]? = some (.cells #[.int .i64 0, .int .i64 0, .bool false, .slice none 0 0] 29 (0, 0))) := ⟨by (with_reducible repeat (first | refine uH ?_ _ | refine uJ ?_ | refine uG ?_ _)); refine uQ ?_ NB158_157.out _; (with_reducible repeat (first | refine uH ?_ _ | refine uJ ?_ | refine uG ?_ _)); refine uQ ?_ NB158_157.out _; (with_reducible repeat (first | refine uH ?_ _ | refine uJ ?_ | refine uG ?_ _)); refine uQ ?_ NB158_157.out _; (with_reducible repeat (first | refine uH ?_ _ | refine uJ ?_ | refine uG ?_ _)); refine uQ ?_ NB158_157.out _; (with_reducible repeat (first | refine uH ?_ _ | refine uJ ?_ | refine uG ?_ _)); exact BK158.out⟩
      have n3_ : Aside0 (Below w.heap.size w ((((w37.setCell ⟨gb157, 0, none⟩ (.int .i64 t159)).setCell ⟨gb157, 1, none⟩ (.int .i64 t160)).setCell ⟨gb157, 2, none⟩ (.bool false)).setCell ⟨gb157, 3, none⟩ (.slice Ao39 t162.length co39))) := ⟨pb HB⟩
      (try clear HO164)
      (try clear BK157)
      (try clear BK158)
      (try clear HB)
      generalize ((((w37.setCell ⟨gb157, 0, none⟩ (.int .i64 t159)).setCell ⟨gb157, 1, none⟩ (.int .i64 t160)).setCell ⟨gb157, 2, none⟩ (.bool false)).setCell ⟨gb157, 3, none⟩ (.slice Ao39 t162.length co39)) = w40 at n0_ n1_ n2_ n3_ ⊢
      have HO164 := n0_
      have BK157 := n1_
      have BK158 := n2_
      have HB := n3_
      clear n0_ n1_ n2_ n3_
      replace HO164 := uD (uT HO164.out)
      replace BK157 := uD (uJ BK157.out)
      replace BK158 := uD (uJ BK158.out)
      replace HB := uD (uK HB.out)
      have p166 : 0 ≤ (0 : Int) := (by omega)
      have q166 : 0 < (t162.length : Int) := of_decide_eq_true (by first | (with_reducible assumption) | assumption)
      obtain ⟨ad166, e166, hx166_0, hx166_1, hx166_2⟩ := at_T53 (Kd.R_reads' HO164.out).2.2 0 p166 q166
      cases e166
      have qi166 : (0 < t162.length) = True := eq_true (by omega)
      (try rw [show ((0 : Int)).toNat = 0 from rfl] at hx166_0)
      (try rw [show 0 * 3 = 0 from rfl] at hx166_0)
      (try rw [Addr.add_zero'] at hx166_0)
      (try rw [show ((0 : Int)).toNat = 0 from rfl] at hx166_1)
      (try rw [show 0 * 3 = 0 from rfl] at hx166_1)
      (try rw [Addr.add_zero'] at hx166_1)
      (try rw [show ((0 : Int)).toNat = 0 from rfl] at hx166_2)
      (try rw [show 0 * 3 = 0 from rfl] at hx166_2)
      (try rw [Addr.add_zero'] at hx166_2)
      replace p166 := eq_true p166
      replace q166 := eq_true q166
      refine start_ (n := 23) (S := fun w' => w'.cell? ⟨gb157, 0, none⟩ = some (.int .i64 t159) ∧ w'.cell? ⟨gb157, 1, none⟩ = some (.int .i64 t160) ∧ w'.cell? ⟨gb157, 2, none⟩ = some (.bool false) ∧ w'.cell? ⟨gb157, 3, none⟩ = some (.slice (some ad166) t162.length co39) ∧ w'.cell? ad166 = some (.int .i64 ((rd_T53 t162 0).f0)) ∧ w'.cell? ⟨ad166.block, ad166.off + 1, none⟩ = some (.int .i64 ((rd_T53 t162 0).f1)) ∧ w'.cell? ⟨ad166.block, ad166.off + 2, none⟩ = some (.int .i64 ((rd_T53 t162 0).f2))) (ds := []) #[F,F,F,F,F,F,F,F,F,F,F,F,F,F,F,F,F,F,F,F,F,F,F] (by kernel_rfl) rfl rfl ⟨(uF BK157.out 0).trans rfl, (uF BK157.out 1).trans rfl, (uF BK157.out 2).trans rfl, (uF BK157.out 3).trans rfl, hx166_0, hx166_1, hx166_2⟩ (fun hHeld => ?_); refine with_tabW spec_Leave.tab2 spec_Leave.bits2 (fun HT_ HW_ => ?_)
      generalize w40.drew = w41 at HO164 BK157 BK158 HB HO164 hx166_0 hx166_1 hx166_2 hHeld ⊢
      refine take_ (i := 0) (N := some 8) (v := ?_) (a' := ?_) #[T,F,F,F,F,F,F,F,F,F,F,F,F,F,F,F,F,F,F,F,F,F,F] rfl rfl (take_ofW HT_.out HW_.out (by kernel_rfl)) (fun _ _ _ h => h) (Or.inl ⟨by rfl, ?_⟩) hHeld ?_ ?_
      rotate_left;(rintro w' ⟨s0, s1, s2, s3, s4, s5, s6⟩;go_simp;with_reducible rfl);rotate_left;(simp only [uc,uA,uB,uC,uZ,ua];rfl)
      refine one_ (i := 1) (N := some 9) #[T,T,F,F,F,F,F,F,F,F,F,F,F,F,F,F,F,F,F,F,F,F,F] rfl rfl (one_of HT_.out (by kernel_rfl)) (by decide) (fun K hK => ?_)
      refine goes_ Try.func16 (by kernel_rfl) rfl #[.agg #[.int .i64 t159, .int .i64 t160, .bool false, .slice (some ad166) t162.length co39]] (by rfl) rfl rfl (by (try simp only [List.map_toArray, List.map_cons, List.map_nil]); first | done | rfl | (simp only [List.length_drop, List.length_take]; rfl)) ?_
      with_reducible refine (spec_BeltOk.calls k t159 t160 false _ _ t162 true _ ?side1 ?side2 A3.out).mono ?_
      (case side1 => repeat (first | exact (Kd.R_reads' HO164.out).2.2 | (with_reducible refine Kd.C_alloc ?_ _) | (with_reducible refine Kd.C_drewN ?_ _) | (with_reducible refine Kd.C_drew ?_)))
      (case side2 => exact (Kd.R_reads' HO164.out).2.1)
      rintro e w42 ⟨rfl, hb⟩
      have HS4_ := (hb.cell (World.block_lt_of_cell? _ _ (hHeld.2.2.2.2.1))).trans (hHeld.2.2.2.2.1)
      have HS5_ := (hb.cell (World.block_lt_of_cell? _ _ (hHeld.2.2.2.2.2.1))).trans (hHeld.2.2.2.2.2.1)
      have HS6_ := (hb.cell (World.block_lt_of_cell? _ _ (hHeld.2.2.2.2.2.2))).trans (hHeld.2.2.2.2.2.2)
      refine ⟨_, rfl, ?_⟩
      replace HO164 := uD (Kd.R_below (pr HO164) hb)
      replace BK157 := uD (blk_below (pk BK157) hb)
      replace BK158 := uD (blk_below (pk BK158) hb)
      replace HB := uD (uO (pb HB) hb)
      (try clear hb)
      (try clear hb2)
      (try clear hk)
      (try clear hi)
      refine hK.out _ _ ⟨(uF BK157.out 0).trans rfl, (uF BK157.out 1).trans rfl, (uF BK157.out 2).trans rfl, (uF BK157.out 3).trans rfl, HS4_, HS5_, HS6_⟩ (fun hHeld => ?_)
      clear hK K
      refine norm_ (a' := ?_) ?_ ?_
      rotate_left
      ·show uc _ (some 9) _ = _
       simp only [uc, uA, uB, uC, uZ, ua]
       rfl
      refine ub (i := 2) (N := some 10) (v := ?_) (a' := ?_) #[T,T,T,F,F,F,F,F,F,F,F,F,F,F,F,F,F,F,F,F,F,F,F] rfl rfl (uY HT_.out (by kernel_rfl)) (fun _ _ _ h => h) (Or.inl ⟨by rfl, ?_⟩) ?_ ?_
      rotate_left;(intro w';go_simp;with_reducible rfl);rotate_left;(simp only [uc,uA,uB,uC,uZ,ua];rfl)
      refine ub (i := 3) (N := some 11) (v := ?_) (a' := ?_) #[T,T,T,T,F,F,F,F,F,F,F,F,F,F,F,F,F,F,F,F,F,F,F] rfl rfl (uY HT_.out (by kernel_rfl)) (fun _ _ _ h => h) (Or.inl ⟨by rfl, ?_⟩) ?_ ?_
      rotate_left;(intro w';go_simp;with_reducible rfl);rotate_left;(simp only [uc,uA,uB,uC,uZ,ua];rfl)
      refine ub (i := 4) (N := some 12) (v := ?_) (a' := ?_) #[T,T,T,T,T,F,F,F,F,F,F,F,F,F,F,F,F,F,F,F,F,F,F] rfl rfl (uY HT_.out (by kernel_rfl)) (fun _ _ _ h => h) (Or.inl ⟨by rfl, ?_⟩) ?_ ?_
      rotate_left;(intro w';go_simp;with_reducible rfl);rotate_left;(simp only [uc,uA,uB,uC,uZ,ua];rfl)
      refine take_ (i := 5) (N := some 13) (v := ?_) (a' := ?_) #[T,T,T,T,T,T,F,F,F,F,F,F,F,F,F,F,F,F,F,F,F,F,F] rfl rfl (take_ofW HT_.out HW_.out (by kernel_rfl)) (fun _ _ _ h => h) (Or.inl ⟨by rfl, ?_⟩) hHeld ?_ ?_
      rotate_left;(rintro w' ⟨s0, s1, s2, s3, s4, s5, s6⟩;go_simp;with_reducible rfl);rotate_left;(simp only [uc,uA,uB,uC,uZ,ua];rfl)
      refine ub (i := 6) (N := some 14) (v := ?_) (a' := ?_) #[T,T,T,T,T,T,T,F,F,F,F,F,F,F,F,F,F,F,F,F,F,F,F] rfl rfl (uY HT_.out (by kernel_rfl)) (fun _ _ _ h => h) (Or.inl ⟨by rfl, ?_⟩) ?_ ?_
      rotate_left;(intro w';go_simp;with_reducible rfl);rotate_left;(simp only [uc,uA,uB,uC,uZ,ua];rfl)
      refine ub (i := 7) (N := some 15) (v := ?_) (a' := ?_) #[T,T,T,T,T,T,T,T,F,F,F,F,F,F,F,F,F,F,F,F,F,F,F] rfl rfl (uY HT_.out (by kernel_rfl)) (fun _ _ _ h => h) (Or.inl ⟨by rfl, ?_⟩) ?_ ?_
      rotate_left;(intro w';go_simp;with_reducible rfl);rotate_left;(simp only [uc,uA,uB,uC,uZ,ua];rfl)
      refine ub (i := 8) (N := some 16) (v := ?_) (a' := ?_) #[T,T,T,T,T,T,T,T,T,F,F,F,F,F,F,F,F,F,F,F,F,F,F] rfl rfl (uY HT_.out (by kernel_rfl)) (fun _ _ _ h => h) (Or.inl ⟨by rfl, ?_⟩) ?_ ?_
      rotate_left;(intro w';go_simp;with_reducible rfl);rotate_left;(simp only [uc,uA,uB,uC,uZ,ua];rfl)
      refine take_ (i := 9) (N := some 17) (v := ?_) (a' := ?_) #[T,T,T,T,T,T,T,T,T,T,F,F,F,F,F,F,F,F,F,F,F,F,F] rfl rfl (take_ofW HT_.out HW_.out (by kernel_rfl)) (fun _ _ _ h => h) (Or.inl ⟨by rfl, ?_⟩) hHeld ?_ ?_
      rotate_left;(rintro w' ⟨s0, s1, s2, s3, s4, s5, s6⟩;go_simp;with_reducible rfl);rotate_left;(simp only [uc,uA,uB,uC,uZ,ua];rfl)
      refine ub (i := 10) (N := some 18) (v := ?_) (a' := ?_) #[T,T,T,T,T,T,T,T,T,T,T,F,F,F,F,F,F,F,F,F,F,F,F] rfl rfl (uY HT_.out (by kernel_rfl)) (fun _ _ _ h => h) (Or.inl ⟨by rfl, ?_⟩) ?_ ?_
      rotate_left;(intro w';go_simp;with_reducible rfl);rotate_left;(simp only [uc,uA,uB,uC,uZ,ua];rfl)
      refine ub (i := 11) (N := some 19) (v := ?_) (a' := ?_) #[T,T,T,T,T,T,T,T,T,T,T,T,F,F,F,F,F,F,F,F,F,F,F] rfl rfl (uY HT_.out (by kernel_rfl)) (fun _ _ _ h => h) (Or.inl ⟨by rfl, ?_⟩) ?_ ?_
      rotate_left;(intro w';go_simp;with_reducible rfl);rotate_left;(simp only [uc,uA,uB,uC,uZ,ua];rfl)
      refine ub (i := 12) (N := some 20) (v := ?_) (a' := ?_) #[T,T,T,T,T,T,T,T,T,T,T,T,T,F,F,F,F,F,F,F,F,F,F] rfl rfl (uY HT_.out (by kernel_rfl)) (fun _ _ _ h => h) (Or.inl ⟨by rfl, ?_⟩) ?_ ?_
      rotate_left;(intro w';go_simp;with_reducible rfl);rotate_left;(simp only [uc,uA,uB,uC,uZ,ua];rfl)
      refine ub (i := 13) (N := some 21) (v := ?_) (a' := ?_) #[T,T,T,T,T,T,T,T,T,T,T,T,T,T,F,F,F,F,F,F,F,F,F] rfl rfl (uY HT_.out (by kernel_rfl)) (fun _ _ _ h => h) (Or.inl ⟨by rfl, ?_⟩) ?_ ?_
      rotate_left;(intro w';go_simp;with_reducible rfl);rotate_left;(simp only [uc,uA,uB,uC,uZ,ua];rfl)
      refine ub (i := 14) (N := some 22) (v := ?_) (a' := ?_) #[T,T,T,T,T,T,T,T,T,T,T,T,T,T,T,F,F,F,F,F,F,F,F] rfl rfl (uY HT_.out (by kernel_rfl)) (fun _ _ _ h => h) (Or.inl ⟨by rfl, ?_⟩) ?_ ?_
      rotate_left;(intro w';go_simp;with_reducible rfl);rotate_left;(simp only [uc,uA,uB,uC,uZ,ua];rfl)
      refine ub (i := 19) (N := some 27) (v := ?_) (a' := ?_) #[T,T,T,T,T,T,T,T,T,T,T,T,T,T,T,F,F,F,F,T,F,F,F] rfl rfl (uY HT_.out (by kernel_rfl)) (fun _ _ _ h => h) (Or.inl ⟨by rfl, ?_⟩) ?_ ?_
      rotate_left;(intro w';go_simp;with_reducible rfl);rotate_left;(simp only [uc,uA,uB,uC,uZ,ua];rfl)
      refine take_ (i := 15) (N := some 23) (v := ?_) (a' := ?_) #[T,T,T,T,T,T,T,T,T,T,T,T,T,T,T,T,F,F,F,T,F,F,F] rfl rfl (take_ofW HT_.out HW_.out (by kernel_rfl)) (fun _ _ _ h => h) (Or.inl ⟨by rfl, ?_⟩) hHeld ?_ ?_
      rotate_left;(rintro w' ⟨s0, s1, s2, s3, s4, s5, s6⟩;go_simp;with_reducible rfl);rotate_left;(simp only [uc,uA,uB,uC,uZ,ua];rfl)
      refine ub (i := 16) (N := some 24) (v := ?_) (a' := ?_) #[T,T,T,T,T,T,T,T,T,T,T,T,T,T,T,T,T,F,F,T,F,F,F] rfl rfl (uY HT_.out (by kernel_rfl)) (fun _ _ _ h => h) (Or.inl ⟨by rfl, ?_⟩) ?_ ?_
      rotate_left;(intro w';go_simp;with_reducible rfl);rotate_left;(simp only [uc,uA,uB,uC,uZ,ua];rfl)
      refine ub (i := 17) (N := some 25) (v := ?_) (a' := ?_) #[T,T,T,T,T,T,T,T,T,T,T,T,T,T,T,T,T,T,F,T,F,F,F] rfl rfl (uY HT_.out (by kernel_rfl)) (fun _ _ _ h => h) (Or.inl ⟨by rfl, ?_⟩) ?_ ?_
      rotate_left;(intro w';go_simp;with_reducible rfl);rotate_left;(simp only [uc,uA,uB,uC,uZ,ua];rfl)
      refine take_ (i := 18) (N := some 26) (v := ?_) (a' := ?_) #[T,T,T,T,T,T,T,T,T,T,T,T,T,T,T,T,T,T,T,T,F,F,F] rfl rfl (take_ofW HT_.out HW_.out (by kernel_rfl)) (fun _ _ _ h => h) (Or.inl ⟨by rfl, ?_⟩) hHeld ?_ ?_
      rotate_left;(rintro w' ⟨s0, s1, s2, s3, s4, s5, s6⟩;go_simp;with_reducible rfl);rotate_left;(simp only [uc,uA,uB,uC,uZ,ua];rfl)
      refine take_ (i := 20) (N := some 28) (v := ?_) (a' := ?_) #[T,T,T,T,T,T,T,T,T,T,T,T,T,T,T,T,T,T,T,T,T,F,F] rfl rfl (take_ofW HT_.out HW_.out (by kernel_rfl)) (fun _ _ _ h => h) (Or.inl ⟨by rfl, ?_⟩) hHeld ?_ ?_
      rotate_left;(rintro w' ⟨s0, s1, s2, s3, s4, s5, s6⟩;go_simp;with_reducible rfl);rotate_left;(simp only [uc,uA,uB,uC,uZ,ua];rfl)
      refine ub (i := 21) (N := some 29) (v := ?_) (a' := ?_) #[T,T,T,T,T,T,T,T,T,T,T,T,T,T,T,T,T,T,T,T,T,T,F] rfl rfl (uY HT_.out (by kernel_rfl)) (fun _ _ _ h => h) (Or.inl ⟨by rfl, ?_⟩) ?_ ?_
      rotate_left;(intro w';go_simp;with_reducible rfl);rotate_left;(simp only [uc,uA,uB,uC,uZ,ua];rfl)
      refine ub (i := 22) (N := some 30) (v := ?_) (a' := ?_) #[T,T,T,T,T,T,T,T,T,T,T,T,T,T,T,T,T,T,T,T,T,T,T] rfl rfl (uY HT_.out (by kernel_rfl)) (fun _ _ _ h => h) (Or.inl ⟨by rfl, ?_⟩) ?_ ?_
      rotate_left;(intro w';go_simp;with_reducible rfl);rotate_left;(simp only [uc,uA,uB,uC,uZ,ua];rfl)
      refine done_ (done_of HT_.out (by kernel_rfl)) ?_
      obtain ⟨hcz43_0, hcz43_1, hcz43_2, hcz43_3, hfz43_0, hfz43_1, hfz43_2, hfz43_3⟩ := cz4 BK157
      obtain ⟨hcz44_0, hcz44_1, hcz44_2, hcz44_3, hfz44_0, hfz44_1, hfz44_2, hfz44_3⟩ := cz4 BK158
      try go_wp2
      refine bodyPost_ret (results_ctt rfl _ _ gb158 29 #[.int .i64 t159, .int .i64 t160, .bool false, .slice (some ad166) t162.length co39] (0, 0) _ rfl (by (with_reducible repeat (first | refine uH ?_ _ | refine uJ ?_ | refine uG ?_ _)); refine uP (cs := #[.int .i64 t159, .int .i64 t160, .bool false, .slice none 0 0]) ?_ 3 _ rfl; (with_reducible repeat (first | refine uH ?_ _ | refine uJ ?_ | refine uG ?_ _)); refine uP (cs := #[.int .i64 t159, .int .i64 t160, .bool false, .slice none 0 0]) ?_ 2 _ rfl; (with_reducible repeat (first | refine uH ?_ _ | refine uJ ?_ | refine uG ?_ _)); refine uP (cs := #[.int .i64 t159, .int .i64 0, .bool false, .slice none 0 0]) ?_ 1 _ rfl; (with_reducible repeat (first | refine uH ?_ _ | refine uJ ?_ | refine uG ?_ _)); refine uP (cs := #[.int .i64 0, .int .i64 0, .bool false, .slice none 0 0]) ?_ 0 _ rfl; (with_reducible repeat (first | refine uH ?_ _ | refine uJ ?_ | refine uG ?_ _)); exact BK158.out) Try.underlying29 rfl (by kernel_rfl)) rfl ?_
      exact ⟨_, by first | rfl | (simp [errW_none, errW_some] <;> rfl) | (simp [*, errW_none, errW_some] <;> rfl), by (with_reducible repeat (first | apply uU | apply uS | apply uT)); exact uX (uV (p := ⟨gb158, 3, none⟩) (uV (p := ⟨gb158, 2, none⟩) (uV (p := ⟨gb158, 1, none⟩) (uV (p := ⟨gb158, 0, none⟩) (uW HO164.out BK158.out (by decide)) (fun _ hk => hk.2) (.int .i64 t159)) (fun _ hk => hk.2) (.int .i64 t160)) (fun _ hk => hk.2) (.bool false)) (fun _ hk => hk.2) (.slice (some ad166) t162.length co39)) (fun _ hk => trivial), pb HB⟩
     ·rw [if_neg c32] at H
      have c32b0 : decide (((rd_T53 t162 0).f1) < t159) = false := decide_eq_false c32
      clear c32
      obtain ⟨y168, hy168⟩ : ∃ y_ : List (S53), y_ = (([] : List (S53))) := ⟨_, rfl⟩
      replace H : (if 1 ≤ (t162.length : Int) then ((some (t162.drop 1 : List (S53))).bind fun y171 => (if y168.length + y171.length < 5864062014805 then (some (t159, t160, false, (y168 ++ y171), (rd_T53 t162 0).f0, true)) else (none))) else (none)) = some (r1, r2, r3, r4, r5, r6) := by first | (rw [hy168]; with_reducible exact H) | (have H2_ := (Option.bind_some _ _).symm.trans H; rw [hy168]; with_reducible exact H2_) | (have H2_ := (Option.bind_some _ _).symm.trans H; with_reducible exact H2_) | with_reducible exact H | (rw [hy168]; exact H) | exact H
      have Ny168 := uD hy168
      clear hy168
      by_cases c45 : 1 ≤ (t162.length : Int)
      ·rw [if_pos c45] at H
       have c45b0 := eq_true c45
       have c45b1 : decide (1 ≤ (t162.length : Int)) = true := decide_eq_true c45
       clear c45
       obtain ⟨y171, hy171⟩ : ∃ y_ : List (S53), y_ = (t162.drop 1) := ⟨_, rfl⟩
       replace H : (if y168.length + y171.length < 5864062014805 then (some (t159, t160, false, (y168 ++ y171), (rd_T53 t162 0).f0, true)) else (none)) = some (r1, r2, r3, r4, r5, r6) := by first | (rw [hy171]; with_reducible exact H) | (have H2_ := (Option.bind_some _ _).symm.trans H; rw [hy171]; with_reducible exact H2_) | (have H2_ := (Option.bind_some _ _).symm.trans H; with_reducible exact H2_) | with_reducible exact H | (rw [hy171]; exact H) | exact H
       have Ny171 := uD hy171
       clear hy171
       by_cases c46 : y168.length + y171.length < 5864062014805
       ·rw [if_pos c46] at H
        have LMc46 := uD c46
        clear c46
        obtain ⟨y175, hy175⟩ : ∃ y_ : List (S53), y_ = (y168 ++ y171) := ⟨_, rfl⟩
        replace H : (some (t159, t160, false, y175, (rd_T53 t162 0).f0, true)) = some (r1, r2, r3, r4, r5, r6) := by first | (rw [hy175]; with_reducible exact H) | (have H2_ := (Option.bind_some _ _).symm.trans H; rw [hy175]; with_reducible exact H2_) | (have H2_ := (Option.bind_some _ _).symm.trans H; with_reducible exact H2_) | with_reducible exact H | (rw [hy175]; exact H) | exact H
        have Ny175 := uD hy175
        clear hy175
        simp only [Option.some.injEq, Prod.mk.injEq] at H
        obtain ⟨rfl, rfl, rfl, rfl, rfl, rfl⟩ := H
        go_enter Try.func26, Try.ntmps26
        try go_wp2_with (first | ((with_reducible refine gate_dst (N := 1) rfl ?_); (try (refine gate_guard (by rfl) ?_; dsimp only)); refine box_event ?hg (N := 1) ?hd (cs := #[.int .i64 a0_0, .int .i64 a0_1, .bool a0_2, .slice A0_3 l0_3.length c0_3]) (t := 29) ?hr ?_; (case hd => rfl); (case hg => rfl); (case hr => first | (go_simp; done) | (go_simp; rfl)); intro gb157 hg w47 hbox hb; have BK157 := uD (hbox); have GW157 := uD ((by rw [hg]; exact (uN (pb HB)) : w.heap.size ≤ gb157)); have GE157 := uD ((by rw [hg]; exact (uN (pb HB)) : w.heap.size ≤ gb157)); replace HB := uD (uO (pb HB) hb); clear hb hbox hg) | ((with_reducible refine gate_dst (N := 2) rfl ?_); (try (refine gate_guard (by rfl) ?_; dsimp only)); refine box_event ?hg (N := 2) ?hd (cs := #[.int .i64 0, .int .i64 0, .bool false, .slice none 0 0]) (t := 29) ?hr ?_; (case hd => rfl); (case hg => rfl); (case hr => first | (go_simp; done) | (go_simp; rfl)); intro gb158 hg w48 hbox hb; have BK158 := uD (hbox); have GW158 := uD ((by rw [hg]; exact (uN (pb HB)) : w.heap.size ≤ gb158)); have GE158 := uD ((by rw [hg]; exact (uN (pb HB)) : w.heap.size ≤ gb158)); replace HB := uD (uO (pb HB) hb); have NB157_158 := uD ((by rw [hg]; exact Nat.ne_of_lt (blk_lt (g := gb157) (o := .cells #[.int .i64 a0_0, .int .i64 a0_1, .bool a0_2, .slice A0_3 l0_3.length c0_3] 29 (0, 0)) (pk BK157)) : gb157 ≠ gb158)); have NB158_157 := uD ((by rw [hg]; exact Nat.ne_of_gt (blk_lt (g := gb157) (o := .cells #[.int .i64 a0_0, .int .i64 a0_1, .bool a0_2, .slice A0_3 l0_3.length c0_3] 29 (0, 0)) (pk BK157)) : gb158 ≠ gb157)); replace BK157 := uD (blk_below (pk BK157) hb); clear hb hbox hg; have hnb49 := NB157_158.out; have hnc49 := NB158_157.out; obtain ⟨hcz50_0, hcz50_1, hcz50_2, hcz50_3, hfz50_0, hfz50_1, hfz50_2, hfz50_3⟩ := cz4 BK157) | ((with_reducible refine gate_callee (f := 55) rfl ?_); refine goesL_ (some 7) rfl rfl Try.func55 (by kernel_rfl) rfl #[.agg #[.int .i64 a0_0, .int .i64 a0_1, .bool a0_2, .slice A0_3 l0_3.length c0_3]] rfl (by (try simp only [List.map_toArray, List.map_cons, List.map_nil]); first | done | rfl | (simp only [List.length_drop, List.length_take]; rfl)) ?_; (with_reducible refine (spec_l02Fresh.calls a0_0 a0_1 a0_2 _ _ l0_3 t159 t160 false t162 _ ?side1 ?side2 A2.out).mono ?_); (case side1 => repeat (first | exact (Kd.C_below HR0_3.out HB.out) | (with_reducible refine Kd.C_alloc ?_ _) | (with_reducible refine Kd.C_drewN ?_ _) | (with_reducible refine Kd.C_drew ?_))); (case side2 => exact HC0_3.out); rintro e w51 ⟨v163, rfl, ho0, hb⟩; refine ⟨_, rfl, ?_⟩; have HO164 := uD (Kd.R_lower ho0 (uN (pb HB))); replace BK157 := uD (blk_below (pk BK157) hb); replace BK158 := uD (blk_below (pk BK158) hb); replace HB := uD (uO (pb HB) hb); (try clear hb); (try clear hb2); (try clear hk); (try clear hi); (try clear ho0); obtain ⟨hcz52_0, hcz52_1, hcz52_2, hcz52_3, hfz52_0, hfz52_1, hfz52_2, hfz52_3⟩ := cz4 BK157; obtain ⟨Ao53, co53, eo53⟩ := Kd.R_slice HO164.out; subst eo53))
        have n0_ : Aside0 (Kd.R k53 53 ((((w51.setCell ⟨gb157, 0, none⟩ (.int .i64 t159)).setCell ⟨gb157, 1, none⟩ (.int .i64 t160)).setCell ⟨gb157, 2, none⟩ (.bool false)).setCell ⟨gb157, 3, none⟩ (.slice Ao53 t162.length co53)) w.heap.size (fun _ => True) (.slice Ao53 t162.length co53) t162) := ⟨by (with_reducible repeat (first | apply uU | apply uS | apply uT)); exact uX (uV (p := ⟨gb157, 3, none⟩) (uV (p := ⟨gb157, 2, none⟩) (uV (p := ⟨gb157, 1, none⟩) (uV (p := ⟨gb157, 0, none⟩) (uW HO164.out BK157.out (by decide)) (fun _ hk => hk.2) (.int .i64 t159)) (fun _ hk => hk.2) (.int .i64 t160)) (fun _ hk => hk.2) (.bool false)) (fun _ hk => hk.2) (.slice Ao53 t162.length co53)) (fun _ hk => trivial)⟩
        have n1_ : Aside0 (((((w51.setCell ⟨gb157, 0, none⟩ (.int .i64 t159)).setCell ⟨gb157, 1, none⟩ (.int .i64 t160)).setCell ⟨gb157, 2, none⟩ (.bool false)).setCell ⟨gb157, 3, none⟩ (.slice Ao53 t162.length co53)).heap[gb157]? = some (.cells #[.int .i64 t159, .int .i64 t160, .bool false, .slice Ao53 t162.length co53] 29 (0, 0))) := ⟨by (with_reducible repeat (first | refine uH ?_ _ | refine uJ ?_ | refine uG ?_ _)); refine uP (cs := #[.int .i64 t159, .int .i64 t160, .bool false, .slice A0_3 l0_3.length c0_3]) ?_ 3 _ rfl; (with_reducible repeat (first | refine uH ?_ _ | refine uJ ?_ | refine uG ?_ _)); refine uP (cs := #[.int .i64 t159, .int .i64 t160, .bool a0_2, .slice A0_3 l0_3.length c0_3]) ?_ 2 _ rfl; (with_reducible repeat (first | refine uH ?_ _ | refine uJ ?_ | refine uG ?_ _)); refine uP (cs := #[.int .i64 t159, .int .i64 a0_1, .bool a0_2, .slice A0_3 l0_3.length c0_3]) ?_ 1 _ rfl; (with_reducible repeat (first | refine uH ?_ _ | refine uJ ?_ | refine uG ?_ _)); refine uP (cs := #[.int .i64 a0_0, .int .i64 a0_1, .bool a0_2, .slice A0_3 l0_3.length c0_3]) ?_ 0 _ rfl; (with_reducible repeat (first | refine uH ?_ _ | refine uJ ?_ | refine uG ?_ _)); exact BK157.out⟩
        have n2_ : Aside0 (((((w51.setCell ⟨gb157, 0, none⟩ (.int .i64 t159)).setCell ⟨gb157, 1, none⟩ (.int .i64 t160)).setCell ⟨gb157, 2, none⟩ (.bool false)).setCell ⟨gb157, 3, none⟩ (.slice Ao53 t162.length co53)).heap[gb158]? = some (.cells #[.int .i64 0, .int .i64 0, .bool false, .slice none 0 0] 29 (0, 0))) := ⟨by (with_reducible repeat (first | refine uH ?_ _ | refine uJ ?_ | refine uG ?_ _)); refine uQ ?_ NB158_157.out _; (with_reducible repeat (first | refine uH ?_ _ | refine uJ ?_ | refine uG ?_ _)); refine uQ ?_ NB158_157.out _; (with_reducible repeat (first | refine uH ?_ _ | refine uJ ?_ | refine uG ?_ _)); refine uQ ?_ NB158_157.out _; (with_reducible repeat (first | refine uH ?_ _ | refine uJ ?_ | refine uG ?_ _)); refine uQ ?_ NB158_157.out _; (with_reducible repeat (first | refine uH ?_ _ | refine uJ ?_ | refine uG ?_ _)); exact BK158.out⟩
        have n3_ : Aside0 (Below w.heap.size w ((((w51.setCell ⟨gb157, 0, none⟩ (.int .i64 t159)).setCell ⟨gb157, 1, none⟩ (.int .i64 t160)).setCell ⟨gb157, 2, none⟩ (.bool false)).setCell ⟨gb157, 3, none⟩ (.slice Ao53 t162.length co53))) := ⟨pb HB⟩
        (try clear HO164)
        (try clear BK157)
        (try clear BK158)
        (try clear HB)
        generalize ((((w51.setCell ⟨gb157, 0, none⟩ (.int .i64 t159)).setCell ⟨gb157, 1, none⟩ (.int .i64 t160)).setCell ⟨gb157, 2, none⟩ (.bool false)).setCell ⟨gb157, 3, none⟩ (.slice Ao53 t162.length co53)) = w54 at n0_ n1_ n2_ n3_ ⊢
        have HO164 := n0_
        have BK157 := n1_
        have BK158 := n2_
        have HB := n3_
        clear n0_ n1_ n2_ n3_
        replace HO164 := uD (uT HO164.out)
        replace BK157 := uD (uJ BK157.out)
        replace BK158 := uD (uJ BK158.out)
        replace HB := uD (uK HB.out)
        have p166 : 0 ≤ (0 : Int) := (by omega)
        have q166 : 0 < (t162.length : Int) := of_decide_eq_true (by first | (with_reducible assumption) | assumption)
        obtain ⟨ad166, e166, hx166_0, hx166_1, hx166_2⟩ := at_T53 (Kd.R_reads' HO164.out).2.2 0 p166 q166
        cases e166
        have qi166 : (0 < t162.length) = True := eq_true (by omega)
        (try rw [show ((0 : Int)).toNat = 0 from rfl] at hx166_0)
        (try rw [show 0 * 3 = 0 from rfl] at hx166_0)
        (try rw [Addr.add_zero'] at hx166_0)
        (try rw [show ((0 : Int)).toNat = 0 from rfl] at hx166_1)
        (try rw [show 0 * 3 = 0 from rfl] at hx166_1)
        (try rw [Addr.add_zero'] at hx166_1)
        (try rw [show ((0 : Int)).toNat = 0 from rfl] at hx166_2)
        (try rw [show 0 * 3 = 0 from rfl] at hx166_2)
        (try rw [Addr.add_zero'] at hx166_2)
        replace p166 := eq_true p166
        replace q166 := eq_true q166
        refine start_ (n := 23) (S := fun w' => w'.cell? ⟨gb157, 0, none⟩ = some (.int .i64 t159) ∧ w'.cell? ⟨gb157, 1, none⟩ = some (.int .i64 t160) ∧ w'.cell? ⟨gb157, 2, none⟩ = some (.bool false) ∧ w'.cell? ⟨gb157, 3, none⟩ = some (.slice (some ad166) t162.length co53) ∧ w'.cell? ad166 = some (.int .i64 ((rd_T53 t162 0).f0)) ∧ w'.cell? ⟨ad166.block, ad166.off + 1, none⟩ = some (.int .i64 ((rd_T53 t162 0).f1)) ∧ w'.cell? ⟨ad166.block, ad166.off + 2, none⟩ = some (.int .i64 ((rd_T53 t162 0).f2))) (ds := []) #[F,F,F,F,F,F,F,F,F,F,F,F,F,F,F,F,F,F,F,F,F,F,F] (by kernel_rfl) rfl rfl ⟨(uF BK157.out 0).trans rfl, (uF BK157.out 1).trans rfl, (uF BK157.out 2).trans rfl, (uF BK157.out 3).trans rfl, hx166_0, hx166_1, hx166_2⟩ (fun hHeld => ?_); refine with_tabW spec_Leave.tab2 spec_Leave.bits2 (fun HT_ HW_ => ?_)
        generalize w54.drew = w55 at HO164 BK157 BK158 HB HO164 hx166_0 hx166_1 hx166_2 hHeld ⊢
        refine take_ (i := 0) (N := some 8) (v := ?_) (a' := ?_) #[T,F,F,F,F,F,F,F,F,F,F,F,F,F,F,F,F,F,F,F,F,F,F] rfl rfl (take_ofW HT_.out HW_.out (by kernel_rfl)) (fun _ _ _ h => h) (Or.inl ⟨by rfl, ?_⟩) hHeld ?_ ?_
        rotate_left;(rintro w' ⟨s0, s1, s2, s3, s4, s5, s6⟩;go_simp;with_reducible rfl);rotate_left;(simp only [uc,uA,uB,uC,uZ,ua];rfl)
        refine one_ (i := 1) (N := some 9) #[T,T,F,F,F,F,F,F,F,F,F,F,F,F,F,F,F,F,F,F,F,F,F] rfl rfl (one_of HT_.out (by kernel_rfl)) (by decide) (fun K hK => ?_)
        refine goes_ Try.func16 (by kernel_rfl) rfl #[.agg #[.int .i64 t159, .int .i64 t160, .bool false, .slice (some ad166) t162.length co53]] (by rfl) rfl rfl (by (try simp only [List.map_toArray, List.map_cons, List.map_nil]); first | done | rfl | (simp only [List.length_drop, List.length_take]; rfl)) ?_
        with_reducible refine (spec_BeltOk.calls k t159 t160 false _ _ t162 true _ ?side1 ?side2 A3.out).mono ?_
        (case side1 => repeat (first | exact (Kd.R_reads' HO164.out).2.2 | (with_reducible refine Kd.C_alloc ?_ _) | (with_reducible refine Kd.C_drewN ?_ _) | (with_reducible refine Kd.C_drew ?_)))
        (case side2 => exact (Kd.R_reads' HO164.out).2.1)
        rintro e w56 ⟨rfl, hb⟩
        have HS4_ := (hb.cell (World.block_lt_of_cell? _ _ (hHeld.2.2.2.2.1))).trans (hHeld.2.2.2.2.1)
        have HS5_ := (hb.cell (World.block_lt_of_cell? _ _ (hHeld.2.2.2.2.2.1))).trans (hHeld.2.2.2.2.2.1)
        have HS6_ := (hb.cell (World.block_lt_of_cell? _ _ (hHeld.2.2.2.2.2.2))).trans (hHeld.2.2.2.2.2.2)
        refine ⟨_, rfl, ?_⟩
        replace HO164 := uD (Kd.R_below (pr HO164) hb)
        replace BK157 := uD (blk_below (pk BK157) hb)
        replace BK158 := uD (blk_below (pk BK158) hb)
        replace HB := uD (uO (pb HB) hb)
        (try clear hb)
        (try clear hb2)
        (try clear hk)
        (try clear hi)
        refine hK.out _ _ ⟨(uF BK157.out 0).trans rfl, (uF BK157.out 1).trans rfl, (uF BK157.out 2).trans rfl, (uF BK157.out 3).trans rfl, HS4_, HS5_, HS6_⟩ (fun hHeld => ?_)
        clear hK K
        refine norm_ (a' := ?_) ?_ ?_
        rotate_left
        ·show uc _ (some 9) _ = _
         simp only [uc, uA, uB, uC, uZ, ua]
         rfl
        refine ub (i := 2) (N := some 10) (v := ?_) (a' := ?_) #[T,T,T,F,F,F,F,F,F,F,F,F,F,F,F,F,F,F,F,F,F,F,F] rfl rfl (uY HT_.out (by kernel_rfl)) (fun _ _ _ h => h) (Or.inl ⟨by rfl, ?_⟩) ?_ ?_
        rotate_left;(intro w';go_simp;with_reducible rfl);rotate_left;(simp only [uc,uA,uB,uC,uZ,ua];rfl)
        refine ub (i := 3) (N := some 11) (v := ?_) (a' := ?_) #[T,T,T,T,F,F,F,F,F,F,F,F,F,F,F,F,F,F,F,F,F,F,F] rfl rfl (uY HT_.out (by kernel_rfl)) (fun _ _ _ h => h) (Or.inl ⟨by rfl, ?_⟩) ?_ ?_
        rotate_left;(intro w';go_simp;with_reducible rfl);rotate_left;(simp only [uc,uA,uB,uC,uZ,ua];rfl)
        refine ub (i := 4) (N := some 12) (v := ?_) (a' := ?_) #[T,T,T,T,T,F,F,F,F,F,F,F,F,F,F,F,F,F,F,F,F,F,F] rfl rfl (uY HT_.out (by kernel_rfl)) (fun _ _ _ h => h) (Or.inl ⟨by rfl, ?_⟩) ?_ ?_
        rotate_left;(intro w';go_simp;with_reducible rfl);rotate_left;(simp only [uc,uA,uB,uC,uZ,ua];rfl)
        refine take_ (i := 5) (N := some 13) (v := ?_) (a' := ?_) #[T,T,T,T,T,T,F,F,F,F,F,F,F,F,F,F,F,F,F,F,F,F,F] rfl rfl (take_ofW HT_.out HW_.out (by kernel_rfl)) (fun _ _ _ h => h) (Or.inl ⟨by rfl, ?_⟩) hHeld ?_ ?_
        rotate_left;(rintro w' ⟨s0, s1, s2, s3, s4, s5, s6⟩;go_simp;with_reducible rfl);rotate_left;(simp only [uc,uA,uB,uC,uZ,ua];rfl)
        refine ub (i := 6) (N := some 14) (v := ?_) (a' := ?_) #[T,T,T,T,T,T,T,F,F,F,F,F,F,F,F,F,F,F,F,F,F,F,F] rfl rfl (uY HT_.out (by kernel_rfl)) (fun _ _ _ h => h) (Or.inl ⟨by rfl, ?_⟩) ?_ ?_
        rotate_left;(intro w';go_simp;with_reducible rfl);rotate_left;(simp only [uc,uA,uB,uC,uZ,ua];rfl)
        refine ub (i := 7) (N := some 15) (v := ?_) (a' := ?_) #[T,T,T,T,T,T,T,T,F,F,F,F,F,F,F,F,F,F,F,F,F,F,F] rfl rfl (uY HT_.out (by kernel_rfl)) (fun _ _ _ h => h) (Or.inl ⟨by rfl, ?_⟩) ?_ ?_
        rotate_left;(intro w';go_simp;with_reducible rfl);rotate_left;(simp only [uc,uA,uB,uC,uZ,ua];rfl)
        refine ub (i := 8) (N := some 16) (v := ?_) (a' := ?_) #[T,T,T,T,T,T,T,T,T,F,F,F,F,F,F,F,F,F,F,F,F,F,F] rfl rfl (uY HT_.out (by kernel_rfl)) (fun _ _ _ h => h) (Or.inl ⟨by rfl, ?_⟩) ?_ ?_
        rotate_left;(intro w';go_simp;with_reducible rfl);rotate_left;(simp only [uc,uA,uB,uC,uZ,ua];rfl)
        refine take_ (i := 9) (N := some 17) (v := ?_) (a' := ?_) #[T,T,T,T,T,T,T,T,T,T,F,F,F,F,F,F,F,F,F,F,F,F,F] rfl rfl (take_ofW HT_.out HW_.out (by kernel_rfl)) (fun _ _ _ h => h) (Or.inl ⟨by rfl, ?_⟩) hHeld ?_ ?_
        rotate_left;(rintro w' ⟨s0, s1, s2, s3, s4, s5, s6⟩;go_simp;with_reducible rfl);rotate_left;(simp only [uc,uA,uB,uC,uZ,ua];rfl)
        refine ub (i := 10) (N := some 18) (v := ?_) (a' := ?_) #[T,T,T,T,T,T,T,T,T,T,T,F,F,F,F,F,F,F,F,F,F,F,F] rfl rfl (uY HT_.out (by kernel_rfl)) (fun _ _ _ h => h) (Or.inl ⟨by rfl, ?_⟩) ?_ ?_
        rotate_left;(intro w';go_simp;with_reducible rfl);rotate_left;(simp only [uc,uA,uB,uC,uZ,ua];rfl)
        refine ub (i := 11) (N := some 19) (v := ?_) (a' := ?_) #[T,T,T,T,T,T,T,T,T,T,T,T,F,F,F,F,F,F,F,F,F,F,F] rfl rfl (uY HT_.out (by kernel_rfl)) (fun _ _ _ h => h) (Or.inl ⟨by rfl, ?_⟩) ?_ ?_
        rotate_left;(intro w';go_simp;with_reducible rfl);rotate_left;(simp only [uc,uA,uB,uC,uZ,ua];rfl)
        refine ub (i := 12) (N := some 20) (v := ?_) (a' := ?_) #[T,T,T,T,T,T,T,T,T,T,T,T,T,F,F,F,F,F,F,F,F,F,F] rfl rfl (uY HT_.out (by kernel_rfl)) (fun _ _ _ h => h) (Or.inl ⟨by rfl, ?_⟩) ?_ ?_
        rotate_left;(intro w';go_simp;with_reducible rfl);rotate_left;(simp only [uc,uA,uB,uC,uZ,ua];rfl)
        refine ub (i := 13) (N := some 21) (v := ?_) (a' := ?_) #[T,T,T,T,T,T,T,T,T,T,T,T,T,T,F,F,F,F,F,F,F,F,F] rfl rfl (uY HT_.out (by kernel_rfl)) (fun _ _ _ h => h) (Or.inl ⟨by rfl, ?_⟩) ?_ ?_
        rotate_left;(intro w';go_simp;with_reducible rfl);rotate_left;(simp only [uc,uA,uB,uC,uZ,ua];rfl)
        refine ub (i := 14) (N := some 22) (v := ?_) (a' := ?_) #[T,T,T,T,T,T,T,T,T,T,T,T,T,T,T,F,F,F,F,F,F,F,F] rfl rfl (uY HT_.out (by kernel_rfl)) (fun _ _ _ h => h) (Or.inl ⟨by rfl, ?_⟩) ?_ ?_
        rotate_left;(intro w';go_simp;with_reducible rfl);rotate_left;(simp only [uc,uA,uB,uC,uZ,ua];rfl)
        refine ub (i := 19) (N := some 27) (v := ?_) (a' := ?_) #[T,T,T,T,T,T,T,T,T,T,T,T,T,T,T,F,F,F,F,T,F,F,F] rfl rfl (uY HT_.out (by kernel_rfl)) (fun _ _ _ h => h) (Or.inl ⟨by rfl, ?_⟩) ?_ ?_
        rotate_left;(intro w';go_simp;with_reducible rfl);rotate_left;(simp only [uc,uA,uB,uC,uZ,ua];rfl)
        refine take_ (i := 15) (N := some 23) (v := ?_) (a' := ?_) #[T,T,T,T,T,T,T,T,T,T,T,T,T,T,T,T,F,F,F,T,F,F,F] rfl rfl (take_ofW HT_.out HW_.out (by kernel_rfl)) (fun _ _ _ h => h) (Or.inl ⟨by rfl, ?_⟩) hHeld ?_ ?_
        rotate_left;(rintro w' ⟨s0, s1, s2, s3, s4, s5, s6⟩;go_simp;with_reducible rfl);rotate_left;(simp only [uc,uA,uB,uC,uZ,ua];rfl)
        refine ub (i := 16) (N := some 24) (v := ?_) (a' := ?_) #[T,T,T,T,T,T,T,T,T,T,T,T,T,T,T,T,T,F,F,T,F,F,F] rfl rfl (uY HT_.out (by kernel_rfl)) (fun _ _ _ h => h) (Or.inl ⟨by rfl, ?_⟩) ?_ ?_
        rotate_left;(intro w';go_simp;with_reducible rfl);rotate_left;(simp only [uc,uA,uB,uC,uZ,ua];rfl)
        refine ub (i := 17) (N := some 25) (v := ?_) (a' := ?_) #[T,T,T,T,T,T,T,T,T,T,T,T,T,T,T,T,T,T,F,T,F,F,F] rfl rfl (uY HT_.out (by kernel_rfl)) (fun _ _ _ h => h) (Or.inl ⟨by rfl, ?_⟩) ?_ ?_
        rotate_left;(intro w';go_simp;with_reducible rfl);rotate_left;(simp only [uc,uA,uB,uC,uZ,ua];rfl)
        refine take_ (i := 18) (N := some 26) (v := ?_) (a' := ?_) #[T,T,T,T,T,T,T,T,T,T,T,T,T,T,T,T,T,T,T,T,F,F,F] rfl rfl (take_ofW HT_.out HW_.out (by kernel_rfl)) (fun _ _ _ h => h) (Or.inl ⟨by rfl, ?_⟩) hHeld ?_ ?_
        rotate_left;(rintro w' ⟨s0, s1, s2, s3, s4, s5, s6⟩;go_simp;with_reducible rfl);rotate_left;(simp only [uc,uA,uB,uC,uZ,ua];rfl)
        refine take_ (i := 20) (N := some 28) (v := ?_) (a' := ?_) #[T,T,T,T,T,T,T,T,T,T,T,T,T,T,T,T,T,T,T,T,T,F,F] rfl rfl (take_ofW HT_.out HW_.out (by kernel_rfl)) (fun _ _ _ h => h) (Or.inl ⟨by rfl, ?_⟩) hHeld ?_ ?_
        rotate_left;(rintro w' ⟨s0, s1, s2, s3, s4, s5, s6⟩;go_simp;with_reducible rfl);rotate_left;(simp only [uc,uA,uB,uC,uZ,ua];rfl)
        refine ub (i := 21) (N := some 29) (v := ?_) (a' := ?_) #[T,T,T,T,T,T,T,T,T,T,T,T,T,T,T,T,T,T,T,T,T,T,F] rfl rfl (uY HT_.out (by kernel_rfl)) (fun _ _ _ h => h) (Or.inl ⟨by rfl, ?_⟩) ?_ ?_
        rotate_left;(intro w';go_simp;with_reducible rfl);rotate_left;(simp only [uc,uA,uB,uC,uZ,ua];rfl)
        refine ub (i := 22) (N := some 30) (v := ?_) (a' := ?_) #[T,T,T,T,T,T,T,T,T,T,T,T,T,T,T,T,T,T,T,T,T,T,T] rfl rfl (uY HT_.out (by kernel_rfl)) (fun _ _ _ h => h) (Or.inl ⟨by rfl, ?_⟩) ?_ ?_
        rotate_left;(intro w';go_simp;with_reducible rfl);rotate_left;(simp only [uc,uA,uB,uC,uZ,ua];rfl)
        refine done_ (done_of HT_.out (by kernel_rfl)) ?_
        obtain ⟨hcz57_0, hcz57_1, hcz57_2, hcz57_3, hfz57_0, hfz57_1, hfz57_2, hfz57_3⟩ := cz4 BK157
        have p167 : 0 ≤ (0 : Int) := (by omega)
        have q167 : 0 < (t162.length : Int) := of_decide_eq_true (by first | (with_reducible assumption) | assumption)
        obtain ⟨ad167, e167, hx167_0, hx167_1, hx167_2⟩ := at_T53 (Kd.R_reads' HO164.out).2.2 0 p167 q167
        obtain rfl : ad166 = ad167 := (by injection e167)
        have qi167 : (0 < t162.length) = True := eq_true (by omega)
        (try rw [show ((0 : Int)).toNat = 0 from rfl] at hx167_0)
        (try rw [show 0 * 3 = 0 from rfl] at hx167_0)
        (try rw [Addr.add_zero'] at hx167_0)
        (try rw [show ((0 : Int)).toNat = 0 from rfl] at hx167_1)
        (try rw [show 0 * 3 = 0 from rfl] at hx167_1)
        (try rw [Addr.add_zero'] at hx167_1)
        (try rw [show ((0 : Int)).toNat = 0 from rfl] at hx167_2)
        (try rw [show 0 * 3 = 0 from rfl] at hx167_2)
        (try rw [Addr.add_zero'] at hx167_2)
        replace p167 := eq_true p167
        replace q167 := eq_true q167
        try go_wp2_with (first | ((with_reducible refine gate_dst (N := 37) rfl ?_); (try (refine gate_guard (by rfl) ?_; dsimp only)); refine Kd.R_lit k53 _ 53 ?hg (N := 37) ?hd (xs := ([] : List (S53))) (inner := []) (ok := fun _ => True) (okp := fun _ => True) ?hr ?hp (fun _ hk => hk) trivial (Below.refl _ _) (Nat.le_refl _) (by simp) ?_; (case hd => rfl); (case hg => rfl); (case hr => first | (go_simp; done) | (go_simp; rfl)); (case hp => exact (Reps.none _ _)); intro v169 w58 ho59 hb hg_ hnew_; clear hg_ hnew_; (first | rw [← Ny168.out] at ho59 | (simp only [Int.reduceToNat] at ho59; rw [← Ny168.out] at ho59)); have HO170 := uD (Kd.R_lower (Kd.R_new' ho59 (Kd.R_lt (pr HO164))) (uN (pb HB))); replace HO164 := uD (Kd.R_elder' (pr HO164) (Kd.R_base ho59) hb); replace BK157 := uD (blk_below (pk BK157) hb); replace BK158 := uD (blk_below (pk BK158) hb); replace HB := uD (uO (pb HB) hb); clear hb ho59; obtain ⟨hcz60_0, hcz60_1, hcz60_2, hcz60_3, hfz60_0, hfz60_1, hfz60_2, hfz60_3⟩ := cz4 BK157; have q61 : (1 : Int) ≤ ((t162.length : Int) : Int) := of_decide_eq_true (by first | (with_reducible assumption) | assumption); obtain ⟨i061, hi061, _, hsz61, _⟩ := info_parts info53; have hroom61 : t162.length ≤ co53 := (Kd.R_reads' HO164.out).2.1; have hC61 : Kd.C k53 _ (some ad166) t162.length t162 := (Kd.R_reads' HO164.out).2.2; have hcut61 := cut_from (P := Try.prog) 27 53 .i64 Try.underlying27 hi061 3 hsz61 (some ad166) t162.length co53 1 (by omega) q61; have hr61 := Kd.C_drop (m := (1 : Int).toNat) (c := co53) hC61 (by omega) hroom61; obtain ⟨A61, hA61⟩ : ∃ A1, A1 = (if co53 = (1 : Int).toNat then (some ad166) else ((some ad166) : Option Addr).map (·.add ((1 : Int).toNat * 3))) := ⟨_, rfl⟩; obtain ⟨c61, hc61⟩ : ∃ c1, c1 = co53 - (1 : Int).toNat := ⟨_, rfl⟩; have hy61 : y171.length = t162.length - (1 : Int).toNat := (by rw [Ny171.out, List.length_drop] <;> omega); rw [show (t162).drop (1 : Int).toNat = y171 from Ny171.out.symm] at hr61; replace hr61 : Kd.C k53 _ A61 y171.length y171 := (by rw [hA61]; exact hr61); rw [← hy61, ← hA61, ← hc61] at hcut61; have HR174 := uD hr61; have HC174 := uD (show y171.length ≤ c61 from by rw [hy61, hc61]; exact Nat.sub_le_sub_right hroom61 _); clear hr61 hC61 hroom61 hi061 hsz61 hc61; have KY61 := uD hy61; have KA61 := uD hA61; clear hy61 hA61; have KL61 := uD (show 1 ≤ t162.length from by omega); replace q61 := eq_true q61) | ((with_reducible refine gate_builtin (b := .append) (xs := #[.tmp 37, .tmp 40]) rfl ?_); (try (refine gate_guard (by rfl) ?_; dsimp only)); at_builtin; refine Kd.R_append_rows k53 (w0 := w) w.heap.size rfl (.tmp 37) (.tmp 40) 27 53 (.agg #[(.int .i64 0), (.int .i64 0), (.int .i64 0)]) 24 rfl Try.underlying27 info53 rfl (by decide) (by omega) v169 y168 y171 _ _ _ (fun k_ => some k_ ≠ (.slice (some ad166) t162.length co53 : Value).ownBlock) (fun _ => False) rfl rfl ?aO ?aR (fun _ _ h => h) (fun _ h => h.elim) ?aF ?aB ?aS ?aL ?_; (case aR => repeat (first | exact (by repeat (first | (with_reducible exact HR174.out) | (with_reducible refine Kd.C_alloc ?_ _) | (with_reducible refine Kd.C_drewN ?_ _) | (with_reducible refine Kd.C_drew ?_) | exact HR174.out)) | (with_reducible refine Kd.C_alloc ?_ _) | (with_reducible refine Kd.C_drewN ?_ _) | (with_reducible refine Kd.C_drew ?_))); (case aB => exact (pb HB)); (case aF => exact (fun k_ hk => Kd.fresh' (Kd.R_lt (pr HO164)) k_ hk)); (case aO => exact (by (with_reducible repeat (first | apply uU | apply uS | apply uT)); exact uX HO170.out (fun _ hk => hk.2))); (case aS => exact (uN (pb HB))); (case aL => have := LMc46.out; omega); intro v176 w62 ho hb hg hat; rw [← Ny175.out] at ho; replace BK157 := uD (blk_grown (g := gb157) (o := .cells #[.int .i64 t159, .int .i64 t160, .bool false, .slice (some ad166) t162.length co53] 29 (0, 0)) (pk BK157) hg (Kd.R_ne HO170.out BK157.out (by decide))); replace BK158 := uD (blk_grown (g := gb158) (o := .cells #[.int .i64 0, .int .i64 0, .bool false, .slice none 0 0] 29 (0, 0)) (pk BK158) hg (Kd.R_ne HO170.out BK158.out (by decide))); replace HB := uD (hb); replace HR174 := uD ((show Kd.C k53 w62 A61 y171.length y171 from by rw [Ny171.out, KA61.out]; exact Kd.C_drop (m := 1) (c := co53) ((Kd.R_reads' (Kd.R_after (ok := (fun _ => True)) (pr HO164) hg hat)).2.2) KL61.out ((Kd.R_reads' (Kd.R_after (ok := (fun _ => True)) (pr HO164) hg hat)).2.1))); replace HO164 := uD (Kd.R_after (ok := (fun _ => True)) (pr HO164) hg hat); have HO177 := uD (ho); clear HO170; clear ho hb hg hat; obtain ⟨Ao63, co63, eo63⟩ := Kd.R_slice HO177.out; subst eo63; obtain ⟨hcz64_0, hcz64_1, hcz64_2, hcz64_3, hfz64_0, hfz64_1, hfz64_2, hfz64_3⟩ := cz4 BK157; obtain ⟨hcz65_0, hcz65_1, hcz65_2, hcz65_3, hfz65_0, hfz65_1, hfz65_2, hfz65_3⟩ := cz4 BK158))
        refine bodyPost_ret (results_ctt rfl _ _ gb158 29 #[.int .i64 t159, .int .i64 t160, .bool false, .slice Ao63 y175.length co63] (0, 0) _ rfl (by (with_reducible repeat (first | refine uH ?_ _ | refine uJ ?_ | refine uG ?_ _)); refine uP (cs := #[.int .i64 t159, .int .i64 t160, .bool false, .slice none 0 0]) ?_ 3 _ rfl; (with_reducible repeat (first | refine uH ?_ _ | refine uJ ?_ | refine uG ?_ _)); refine uP (cs := #[.int .i64 t159, .int .i64 t160, .bool false, .slice none 0 0]) ?_ 2 _ rfl; (with_reducible repeat (first | refine uH ?_ _ | refine uJ ?_ | refine uG ?_ _)); refine uP (cs := #[.int .i64 t159, .int .i64 0, .bool false, .slice none 0 0]) ?_ 1 _ rfl; (with_reducible repeat (first | refine uH ?_ _ | refine uJ ?_ | refine uG ?_ _)); refine uP (cs := #[.int .i64 0, .int .i64 0, .bool false, .slice none 0 0]) ?_ 0 _ rfl; (with_reducible repeat (first | refine uH ?_ _ | refine uJ ?_ | refine uG ?_ _)); refine uQ ?_ NB158_157.out _; (with_reducible repeat (first | refine uH ?_ _ | refine uJ ?_ | refine uG ?_ _)); exact BK158.out) Try.underlying29 rfl (by kernel_rfl)) rfl ?_
        exact ⟨_, by first | rfl | (simp [errW_none, errW_some] <;> rfl) | (simp [*, errW_none, errW_some] <;> rfl), by (with_reducible repeat (first | apply uU | apply uS | apply uT)); exact uX (uV (p := ⟨gb158, 3, none⟩) (uV (p := ⟨gb158, 2, none⟩) (uV (p := ⟨gb158, 1, none⟩) (uV (p := ⟨gb158, 0, none⟩) (uV (p := ⟨gb157, 3, none⟩) (uW (uW HO177.out BK157.out (by decide)) BK158.out (by decide)) (fun _ hk => hk.1.2) (.slice Ao63 y175.length co63)) (fun _ hk => hk.2) (.int .i64 t159)) (fun _ hk => hk.2) (.int .i64 t160)) (fun _ hk => hk.2) (.bool false)) (fun _ hk => hk.2) (.slice Ao63 y175.length co63)) (fun _ hk => trivial), pb HB⟩
       ·rw [if_neg c46] at H
        exact absurd H (by simp)
      ·rw [if_neg c45] at H
       exact absurd H (by simp)
    ·rw [if_neg c31] at H
     exact absurd H (by simp)
 ·replace c4 := Bool.eq_false_iff.mpr c4
  subst c4
  have H1 : (some (t159, t160, t161, t162, 0, false)) = some (r1, r2, r3, r4, r5, r6) := by rw [if_neg (show ¬ (false = true) by decide)] at H; first | done | exact H
  clear H
  have H := H1
  clear H1
  simp only [Option.some.injEq, Prod.mk.injEq] at H
  obtain ⟨rfl, rfl, rfl, rfl, rfl, rfl⟩ := H
  go_enter Try.func26, Try.ntmps26
  try go_wp2_with (first | ((with_reducible refine gate_dst (N := 1) rfl ?_); (try (refine gate_guard (by rfl) ?_; dsimp only)); refine box_event ?hg (N := 1) ?hd (cs := #[.int .i64 a0_0, .int .i64 a0_1, .bool a0_2, .slice A0_3 l0_3.length c0_3]) (t := 29) ?hr ?_; (case hd => rfl); (case hg => rfl); (case hr => first | (go_simp; done) | (go_simp; rfl)); intro gb157 hg w66 hbox hb; have BK157 := uD (hbox); have GW157 := uD ((by rw [hg]; exact (uN (pb HB)) : w.heap.size ≤ gb157)); have GE157 := uD ((by rw [hg]; exact (uN (pb HB)) : w.heap.size ≤ gb157)); replace HB := uD (uO (pb HB) hb); clear hb hbox hg) | ((with_reducible refine gate_dst (N := 2) rfl ?_); (try (refine gate_guard (by rfl) ?_; dsimp only)); refine box_event ?hg (N := 2) ?hd (cs := #[.int .i64 0, .int .i64 0, .bool false, .slice none 0 0]) (t := 29) ?hr ?_; (case hd => rfl); (case hg => rfl); (case hr => first | (go_simp; done) | (go_simp; rfl)); intro gb158 hg w67 hbox hb; have BK158 := uD (hbox); have GW158 := uD ((by rw [hg]; exact (uN (pb HB)) : w.heap.size ≤ gb158)); have GE158 := uD ((by rw [hg]; exact (uN (pb HB)) : w.heap.size ≤ gb158)); replace HB := uD (uO (pb HB) hb); have NB157_158 := uD ((by rw [hg]; exact Nat.ne_of_lt (blk_lt (g := gb157) (o := .cells #[.int .i64 a0_0, .int .i64 a0_1, .bool a0_2, .slice A0_3 l0_3.length c0_3] 29 (0, 0)) (pk BK157)) : gb157 ≠ gb158)); have NB158_157 := uD ((by rw [hg]; exact Nat.ne_of_gt (blk_lt (g := gb157) (o := .cells #[.int .i64 a0_0, .int .i64 a0_1, .bool a0_2, .slice A0_3 l0_3.length c0_3] 29 (0, 0)) (pk BK157)) : gb158 ≠ gb157)); replace BK157 := uD (blk_below (pk BK157) hb); clear hb hbox hg; have hnb68 := NB157_158.out; have hnc68 := NB158_157.out; obtain ⟨hcz69_0, hcz69_1, hcz69_2, hcz69_3, hfz69_0, hfz69_1, hfz69_2, hfz69_3⟩ := cz4 BK157) | ((with_reducible refine gate_callee (f := 55) rfl ?_); refine goesL_ (some 7) rfl rfl Try.func55 (by kernel_rfl) rfl #[.agg #[.int .i64 a0_0, .int .i64 a0_1, .bool a0_2, .slice A0_3 l0_3.length c0_3]] rfl (by (try simp only [List.map_toArray, List.map_cons, List.map_nil]); first | done | rfl | (simp only [List.length_drop, List.length_take]; rfl)) ?_; (with_reducible refine (spec_l02Fresh.calls a0_0 a0_1 a0_2 _ _ l0_3 t159 t160 t161 t162 _ ?side1 ?side2 A2.out).mono ?_); (case side1 => repeat (first | exact (Kd.C_below HR0_3.out HB.out) | (with_reducible refine Kd.C_alloc ?_ _) | (with_reducible refine Kd.C_drewN ?_ _) | (with_reducible refine Kd.C_drew ?_))); (case side2 => exact HC0_3.out); rintro e w70 ⟨v163, rfl, ho0, hb⟩; refine ⟨_, rfl, ?_⟩; have HO164 := uD (Kd.R_lower ho0 (uN (pb HB))); replace BK157 := uD (blk_below (pk BK157) hb); replace BK158 := uD (blk_below (pk BK158) hb); replace HB := uD (uO (pb HB) hb); (try clear hb); (try clear hb2); (try clear hk); (try clear hi); (try clear ho0); obtain ⟨hcz71_0, hcz71_1, hcz71_2, hcz71_3, hfz71_0, hfz71_1, hfz71_2, hfz71_3⟩ := cz4 BK157; obtain ⟨Ao72, co72, eo72⟩ := Kd.R_slice HO164.out; subst eo72))
  have n0_ : Aside0 (Kd.R k53 53 ((((w70.setCell ⟨gb157, 0, none⟩ (.int .i64 t159)).setCell ⟨gb157, 1, none⟩ (.int .i64 t160)).setCell ⟨gb157, 2, none⟩ (.bool t161)).setCell ⟨gb157, 3, none⟩ (.slice Ao72 t162.length co72)) w.heap.size (fun _ => True) (.slice Ao72 t162.length co72) t162) := ⟨by (with_reducible repeat (first | apply uU | apply uS | apply uT)); exact uX (uV (p := ⟨gb157, 3, none⟩) (uV (p := ⟨gb157, 2, none⟩) (uV (p := ⟨gb157, 1, none⟩) (uV (p := ⟨gb157, 0, none⟩) (uW HO164.out BK157.out (by decide)) (fun _ hk => hk.2) (.int .i64 t159)) (fun _ hk => hk.2) (.int .i64 t160)) (fun _ hk => hk.2) (.bool t161)) (fun _ hk => hk.2) (.slice Ao72 t162.length co72)) (fun _ hk => trivial)⟩
  have n1_ : Aside0 (((((w70.setCell ⟨gb157, 0, none⟩ (.int .i64 t159)).setCell ⟨gb157, 1, none⟩ (.int .i64 t160)).setCell ⟨gb157, 2, none⟩ (.bool t161)).setCell ⟨gb157, 3, none⟩ (.slice Ao72 t162.length co72)).heap[gb157]? = some (.cells #[.int .i64 t159, .int .i64 t160, .bool t161, .slice Ao72 t162.length co72] 29 (0, 0))) := ⟨by (with_reducible repeat (first | refine uH ?_ _ | refine uJ ?_ | refine uG ?_ _)); refine uP (cs := #[.int .i64 t159, .int .i64 t160, .bool t161, .slice A0_3 l0_3.length c0_3]) ?_ 3 _ rfl; (with_reducible repeat (first | refine uH ?_ _ | refine uJ ?_ | refine uG ?_ _)); refine uP (cs := #[.int .i64 t159, .int .i64 t160, .bool a0_2, .slice A0_3 l0_3.length c0_3]) ?_ 2 _ rfl; (with_reducible repeat (first | refine uH ?_ _ | refine uJ ?_ | refine uG ?_ _)); refine uP (cs := #[.int .i64 t159, .int .i64 a0_1, .bool a0_2, .slice A0_3 l0_3.length c0_3]) ?_ 1 _ rfl; (with_reducible repeat (first | refine uH ?_ _ | refine uJ ?_ | refine uG ?_ _)); refine uP (cs := #[.int .i64 a0_0, .int .i64 a0_1, .bool a0_2, .slice A0_3 l0_3.length c0_3]) ?_ 0 _ rfl; (with_reducible repeat (first | refine uH ?_ _ | refine uJ ?_ | refine uG ?_ _)); exact BK157.out⟩
  have n2_ : Aside0 (((((w70.setCell ⟨gb157, 0, none⟩ (.int .i64 t159)).setCell ⟨gb157, 1, none⟩ (.int .i64 t160)).setCell ⟨gb157, 2, none⟩ (.bool t161)).setCell ⟨gb157, 3, none⟩ (.slice Ao72 t162.length co72)).heap[gb158]? = some (.cells #[.int .i64 0, .int .i64 0, .bool false, .slice none 0 0] 29 (0, 0))) := ⟨by (with_reducible repeat (first | refine uH ?_ _ | refine uJ ?_ | refine uG ?_ _)); refine uQ ?_ NB158_157.out _; (with_reducible repeat (first | refine uH ?_ _ | refine uJ ?_ | refine uG ?_ _)); refine uQ ?_ NB158_157.out _; (with_reducible repeat (first | refine uH ?_ _ | refine uJ ?_ | refine uG ?_ _)); refine uQ ?_ NB158_157.out _; (with_reducible repeat (first | refine uH ?_ _ | refine uJ ?_ | refine uG ?_ _)); refine uQ ?_ NB158_157.out _; (with_reducible repeat (first | refine uH ?_ _ | refine uJ ?_ | refine uG ?_ _)); exact BK158.out⟩
  have n3_ : Aside0 (Below w.heap.size w ((((w70.setCell ⟨gb157, 0, none⟩ (.int .i64 t159)).setCell ⟨gb157, 1, none⟩ (.int .i64 t160)).setCell ⟨gb157, 2, none⟩ (.bool t161)).setCell ⟨gb157, 3, none⟩ (.slice Ao72 t162.length co72))) := ⟨pb HB⟩
  (try clear HO164)
  (try clear BK157)
  (try clear BK158)
  (try clear HB)
  generalize ((((w70.setCell ⟨gb157, 0, none⟩ (.int .i64 t159)).setCell ⟨gb157, 1, none⟩ (.int .i64 t160)).setCell ⟨gb157, 2, none⟩ (.bool t161)).setCell ⟨gb157, 3, none⟩ (.slice Ao72 t162.length co72)) = w73 at n0_ n1_ n2_ n3_ ⊢
  have HO164 := n0_
  have BK157 := n1_
  have BK158 := n2_
  have HB := n3_
  clear n0_ n1_ n2_ n3_
  replace HO164 := uD (uT HO164.out)
  replace BK157 := uD (uJ BK157.out)
  replace BK158 := uD (uJ BK158.out)
  replace HB := uD (uK HB.out)
  refine start_ (n := 23) (S := fun w' => w'.cell? ⟨gb157, 0, none⟩ = some (.int .i64 t159) ∧ w'.cell? ⟨gb157, 1, none⟩ = some (.int .i64 t160) ∧ w'.cell? ⟨gb157, 2, none⟩ = some (.bool t161) ∧ w'.cell? ⟨gb157, 3, none⟩ = some (.slice Ao72 t162.length co72)) (ds := []) #[F,F,F,F,F,F,F,F,F,F,F,F,F,F,F,F,F,F,F,F,F,F,F] (by kernel_rfl) rfl rfl ⟨(uF BK157.out 0).trans rfl, (uF BK157.out 1).trans rfl, (uF BK157.out 2).trans rfl, (uF BK157.out 3).trans rfl⟩ (fun hHeld => ?_); refine with_tabW spec_Leave.tab2 spec_Leave.bits2 (fun HT_ HW_ => ?_)
  generalize w73.drew = w74 at HO164 BK157 BK158 HB HO164 hHeld ⊢
  refine take_ (i := 0) (N := some 8) (v := ?_) (a' := ?_) #[T,F,F,F,F,F,F,F,F,F,F,F,F,F,F,F,F,F,F,F,F,F,F] rfl rfl (take_ofW HT_.out HW_.out (by kernel_rfl)) (fun _ _ _ h => h) (Or.inl ⟨by rfl, ?_⟩) hHeld ?_ ?_
  rotate_left;(rintro w' ⟨s0, s1, s2, s3⟩;go_simp;with_reducible rfl);rotate_left;(simp only [uc,uA,uB,uC,uZ,ua];rfl)
  refine one_ (i := 1) (N := some 9) #[T,T,F,F,F,F,F,F,F,F,F,F,F,F,F,F,F,F,F,F,F,F,F] rfl rfl (one_of HT_.out (by kernel_rfl)) (by decide) (fun K hK => ?_)
  refine goes_ Try.func16 (by kernel_rfl) rfl #[.agg #[.int .i64 t159, .int .i64 t160, .bool t161, .slice Ao72 t162.length co72]] (by rfl) rfl rfl (by (try simp only [List.map_toArray, List.map_cons, List.map_nil]); first | done | rfl | (simp only [List.length_drop, List.length_take]; rfl)) ?_
  with_reducible refine (spec_BeltOk.calls k t159 t160 t161 _ _ t162 false _ ?side1 ?side2 A3.out).mono ?_
  (case side1 => repeat (first | exact (Kd.R_reads' HO164.out).2.2 | (with_reducible refine Kd.C_alloc ?_ _) | (with_reducible refine Kd.C_drewN ?_ _) | (with_reducible refine Kd.C_drew ?_)))
  (case side2 => exact (Kd.R_reads' HO164.out).2.1)
  rintro e w75 ⟨rfl, hb⟩
  refine ⟨_, rfl, ?_⟩
  replace HO164 := uD (Kd.R_below (pr HO164) hb)
  replace BK157 := uD (blk_below (pk BK157) hb)
  replace BK158 := uD (blk_below (pk BK158) hb)
  replace HB := uD (uO (pb HB) hb)
  (try clear hb)
  (try clear hb2)
  (try clear hk)
  (try clear hi)
  refine hK.out _ _ ⟨(uF BK157.out 0).trans rfl, (uF BK157.out 1).trans rfl, (uF BK157.out 2).trans rfl, (uF BK157.out 3).trans rfl⟩ (fun hHeld => ?_)
  clear hK K
  refine norm_ (a' := ?_) ?_ ?_
  rotate_left
  ·show uc _ (some 9) _ = _
   simp only [uc, uA, uB, uC, uZ, ua]
   rfl
  refine ub (i := 2) (N := some 10) (v := ?_) (a' := ?_) #[T,T,T,F,F,F,F,F,F,F,F,F,F,F,F,F,F,F,F,F,F,F,F] rfl rfl (uY HT_.out (by kernel_rfl)) (fun _ _ _ h => h) (Or.inl ⟨by rfl, ?_⟩) ?_ ?_
  rotate_left;(intro w';go_simp;with_reducible rfl);rotate_left;(simp only [uc,uA,uB,uC,uZ,ua];rfl)
  refine ub (i := 3) (N := some 11) (v := ?_) (a' := ?_) #[T,T,T,T,F,F,F,F,F,F,F,F,F,F,F,F,F,F,F,F,F,F,F] rfl rfl (uY HT_.out (by kernel_rfl)) (fun _ _ _ h => h) (Or.inl ⟨by rfl, ?_⟩) ?_ ?_
  rotate_left;(intro w';go_simp;with_reducible rfl);rotate_left;(simp only [uc,uA,uB,uC,uZ,ua];rfl)
  refine ub (i := 4) (N := some 12) (v := undef) (a' := ?_) #[T,T,T,T,T,F,F,F,F,F,F,F,F,F,F,F,F,F,F,F,F,F,F] rfl rfl (uY HT_.out (by kernel_rfl)) (fun _ _ _ h => h) (Or.inr ⟨by rfl, rfl⟩) ?_ ?_
  rotate_left
  ·simp only [uc, uA, uB, uC, uZ, ua]
   rfl
  refine ub (i := 5) (N := some 13) (v := undef) (a' := ?_) #[T,T,T,T,T,T,F,F,F,F,F,F,F,F,F,F,F,F,F,F,F,F,F] rfl rfl (uY HT_.out (by kernel_rfl)) (fun _ _ _ h => h) (Or.inr ⟨by rfl, rfl⟩) ?_ ?_
  rotate_left
  ·simp only [uc, uA, uB, uC, uZ, ua]
   rfl
  refine ub (i := 6) (N := some 14) (v := ?_) (a' := ?_) #[T,T,T,T,T,T,T,F,F,F,F,F,F,F,F,F,F,F,F,F,F,F,F] rfl rfl (uY HT_.out (by kernel_rfl)) (fun _ _ _ h => h) (Or.inl ⟨by rfl, ?_⟩) ?_ ?_
  rotate_left;(intro w';go_simp;with_reducible rfl);rotate_left;(simp only [uc,uA,uB,uC,uZ,ua];rfl)
  refine ub (i := 7) (N := some 15) (v := ?_) (a' := ?_) #[T,T,T,T,T,T,T,T,F,F,F,F,F,F,F,F,F,F,F,F,F,F,F] rfl rfl (uY HT_.out (by kernel_rfl)) (fun _ _ _ h => h) (Or.inl ⟨by rfl, ?_⟩) ?_ ?_
  rotate_left;(intro w';go_simp;with_reducible rfl);rotate_left;(simp only [uc,uA,uB,uC,uZ,ua];rfl)
  refine ub (i := 8) (N := some 16) (v := undef) (a' := ?_) #[T,T,T,T,T,T,T,T,T,F,F,F,F,F,F,F,F,F,F,F,F,F,F] rfl rfl (uY HT_.out (by kernel_rfl)) (fun _ _ _ h => h) (Or.inr ⟨by rfl, rfl⟩) ?_ ?_
  rotate_left
  ·simp only [uc, uA, uB, uC, uZ, ua]
   rfl
  refine ub (i := 9) (N := some 17) (v := undef) (a' := ?_) #[T,T,T,T,T,T,T,T,T,T,F,F,F,F,F,F,F,F,F,F,F,F,F] rfl rfl (uY HT_.out (by kernel_rfl)) (fun _ _ _ h => h) (Or.inr ⟨by rfl, rfl⟩) ?_ ?_
  rotate_left
  ·simp only [uc, uA, uB, uC, uZ, ua]
   rfl
  refine ub (i := 10) (N := some 18) (v := undef) (a' := ?_) #[T,T,T,T,T,T,T,T,T,T,T,F,F,F,F,F,F,F,F,F,F,F,F] rfl rfl (uY HT_.out (by kernel_rfl)) (fun _ _ _ h => h) (Or.inr ⟨by rfl, rfl⟩) ?_ ?_
  rotate_left
  ·simp only [uc, uA, uB, uC, uZ, ua]
   rfl
  refine ub (i := 11) (N := some 19) (v := undef) (a' := ?_) #[T,T,T,T,T,T,T,T,T,T,T,T,F,F,F,F,F,F,F,F,F,F,F] rfl rfl (uY HT_.out (by kernel_rfl)) (fun _ _ _ h => h) (Or.inr ⟨by rfl, rfl⟩) ?_ ?_
  rotate_left
  ·simp only [uc, uA, uB, uC, uZ, ua]
   rfl
  refine ub (i := 12) (N := some 20) (v := ?_) (a' := ?_) #[T,T,T,T,T,T,T,T,T,T,T,T,T,F,F,F,F,F,F,F,F,F,F] rfl rfl (uY HT_.out (by kernel_rfl)) (fun _ _ _ h => h) (Or.inl ⟨by rfl, ?_⟩) ?_ ?_
  rotate_left;(intro w';go_simp;with_reducible rfl);rotate_left;(simp only [uc,uA,uB,uC,uZ,ua];rfl)
  refine ub (i := 13) (N := some 21) (v := ?_) (a' := ?_) #[T,T,T,T,T,T,T,T,T,T,T,T,T,T,F,F,F,F,F,F,F,F,F] rfl rfl (uY HT_.out (by kernel_rfl)) (fun _ _ _ h => h) (Or.inl ⟨by rfl, ?_⟩) ?_ ?_
  rotate_left;(intro w';go_simp;with_reducible rfl);rotate_left;(simp only [uc,uA,uB,uC,uZ,ua];rfl)
  refine ub (i := 14) (N := some 22) (v := undef) (a' := ?_) #[T,T,T,T,T,T,T,T,T,T,T,T,T,T,T,F,F,F,F,F,F,F,F] rfl rfl (uY HT_.out (by kernel_rfl)) (fun _ _ _ h => h) (Or.inr ⟨by rfl, rfl⟩) ?_ ?_
  rotate_left
  ·simp only [uc, uA, uB, uC, uZ, ua]
   rfl
  refine ub (i := 15) (N := some 23) (v := undef) (a' := ?_) #[T,T,T,T,T,T,T,T,T,T,T,T,T,T,T,T,F,F,F,F,F,F,F] rfl rfl (uY HT_.out (by kernel_rfl)) (fun _ _ _ h => h) (Or.inr ⟨by rfl, rfl⟩) ?_ ?_
  rotate_left
  ·simp only [uc, uA, uB, uC, uZ, ua]
   rfl
  refine ub (i := 16) (N := some 24) (v := undef) (a' := ?_) #[T,T,T,T,T,T,T,T,T,T,T,T,T,T,T,T,T,F,F,F,F,F,F] rfl rfl (uY HT_.out (by kernel_rfl)) (fun _ _ _ h => h) (Or.inr ⟨by rfl, rfl⟩) ?_ ?_
  rotate_left
  ·simp only [uc, uA, uB, uC, uZ, ua]
   rfl
  refine ub (i := 17) (N := some 25) (v := undef) (a' := ?_) #[T,T,T,T,T,T,T,T,T,T,T,T,T,T,T,T,T,T,F,F,F,F,F] rfl rfl (uY HT_.out (by kernel_rfl)) (fun _ _ _ h => h) (Or.inr ⟨by rfl, rfl⟩) ?_ ?_
  rotate_left
  ·simp only [uc, uA, uB, uC, uZ, ua]
   rfl
  refine ub (i := 18) (N := some 26) (v := undef) (a' := ?_) #[T,T,T,T,T,T,T,T,T,T,T,T,T,T,T,T,T,T,T,F,F,F,F] rfl rfl (uY HT_.out (by kernel_rfl)) (fun _ _ _ h => h) (Or.inr ⟨by rfl, rfl⟩) ?_ ?_
  rotate_left
  ·simp only [uc, uA, uB, uC, uZ, ua]
   rfl
  refine ub (i := 19) (N := some 27) (v := undef) (a' := ?_) #[T,T,T,T,T,T,T,T,T,T,T,T,T,T,T,T,T,T,T,T,F,F,F] rfl rfl (uY HT_.out (by kernel_rfl)) (fun _ _ _ h => h) (Or.inr ⟨by rfl, rfl⟩) ?_ ?_
  rotate_left
  ·simp only [uc, uA, uB, uC, uZ, ua]
   rfl
  refine ub (i := 20) (N := some 28) (v := undef) (a' := ?_) #[T,T,T,T,T,T,T,T,T,T,T,T,T,T,T,T,T,T,T,T,T,F,F] rfl rfl (uY HT_.out (by kernel_rfl)) (fun _ _ _ h => h) (Or.inr ⟨by rfl, rfl⟩) ?_ ?_
  rotate_left
  ·simp only [uc, uA, uB, uC, uZ, ua]
   rfl
  refine ub (i := 21) (N := some 29) (v := undef) (a' := ?_) #[T,T,T,T,T,T,T,T,T,T,T,T,T,T,T,T,T,T,T,T,T,T,F] rfl rfl (uY HT_.out (by kernel_rfl)) (fun _ _ _ h => h) (Or.inr ⟨by rfl, rfl⟩) ?_ ?_
  rotate_left
  ·simp only [uc, uA, uB, uC, uZ, ua]
   rfl
  refine ub (i := 22) (N := some 30) (v := ?_) (a' := ?_) #[T,T,T,T,T,T,T,T,T,T,T,T,T,T,T,T,T,T,T,T,T,T,T] rfl rfl (uY HT_.out (by kernel_rfl)) (fun _ _ _ h => h) (Or.inl ⟨by rfl, ?_⟩) ?_ ?_
  rotate_left;(intro w';go_simp;with_reducible rfl);rotate_left;(simp only [uc,uA,uB,uC,uZ,ua];rfl)
  refine done_ (done_of HT_.out (by kernel_rfl)) ?_
  obtain ⟨hcz76_0, hcz76_1, hcz76_2, hcz76_3, hfz76_0, hfz76_1, hfz76_2, hfz76_3⟩ := cz4 BK157
  obtain ⟨hcz77_0, hcz77_1, hcz77_2, hcz77_3, hfz77_0, hfz77_1, hfz77_2, hfz77_3⟩ := cz4 BK158
  try go_wp2
  refine bodyPost_ret (results_ctt rfl _ _ gb158 29 #[.int .i64 t159, .int .i64 t160, .bool t161, .slice Ao72 t162.length co72] (0, 0) _ rfl (by (with_reducible repeat (first | refine uH ?_ _ | refine uJ ?_ | refine uG ?_ _)); refine uP (cs := #[.int .i64 t159, .int .i64 t160, .bool t161, .slice none 0 0]) ?_ 3 _ rfl; (with_reducible repeat (first | refine uH ?_ _ | refine uJ ?_ | refine uG ?_ _)); refine uP (cs := #[.int .i64 t159, .int .i64 t160, .bool false, .slice none 0 0]) ?_ 2 _ rfl; (with_reducible repeat (first | refine uH ?_ _ | refine uJ ?_ | refine uG ?_ _)); refine uP (cs := #[.int .i64 t159, .int .i64 0, .bool false, .slice none 0 0]) ?_ 1 _ rfl; (with_reducible repeat (first | refine uH ?_ _ | refine uJ ?_ | refine uG ?_ _)); refine uP (cs := #[.int .i64 0, .int .i64 0, .bool false, .slice none 0 0]) ?_ 0 _ rfl; (with_reducible repeat (first | refine uH ?_ _ | refine uJ ?_ | refine uG ?_ _)); exact BK158.out) Try.underlying29 rfl (by kernel_rfl)) rfl ?_
  exact ⟨_, by first | rfl | (simp [errW_none, errW_some] <;> rfl) | (simp [*, errW_none, errW_some] <;> rfl), by (with_reducible repeat (first | apply uU | apply uS | apply uT)); exact uX (uV (p := ⟨gb158, 3, none⟩) (uV (p := ⟨gb158, 2, none⟩) (uV (p := ⟨gb158, 1, none⟩) (uV (p := ⟨gb158, 0, none⟩) (uW HO164.out BK158.out (by decide)) (fun _ hk => hk.2) (.int .i64 t159)) (fun _ hk => hk.2) (.int .i64 t160)) (fun _ hk => hk.2) (.bool t161)) (fun _ hk => hk.2) (.slice Ao72 t162.length co72)) (fun _ hk => trivial), pb HB⟩

end Go.Proofs.Ytbdjbdoelbmjcaa.PFnExactRun
