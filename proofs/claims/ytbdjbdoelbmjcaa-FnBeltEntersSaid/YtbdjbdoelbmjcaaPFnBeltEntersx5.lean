-- Written by a program of this session (wip/myprint.py: the kit's print with changes): not by print.sh itself.
import Derived.Test.YtbdjbdoelbmjcaaPFnBeltEntersx0
import Derived.Test.YtbdjbdoelbmjcaaPFnBeltEntersx3
import Derived.Test.YtbdjbdoelbmjcaaPFnBeltEntersx4
namespace Go.Proofs.Ytbdjbdoelbmjcaa.PFnBeltEnters
open Go.RowKit Go.Proofs.YtbdjbdoelbmjcaaW.PrintWords Go.Proofs.YtbdjbdoelbmjcaaW.PrintLast Go.Proofs.YtbdjbdoelbmjcaaW.PrintMore
open Go.Proofs.YtbdjbdoelbmjcaaW.PrintLast renaming i64_w → uZ
open Go.Proofs.YtbdjbdoelbmjcaaW.PrintWords renaming Aside0.mk → uD, blk_alloc → uG, blk_drewN → uH, blk_drew → uJ, below_set → uM, below_size → uN, below_step → uO, blk_put → uP, Kd.R_drewN → uS, Kd.R_drew → uT, Kd.R_alloc → uU, Kd.R_far → uV, Kd.R_types → uW, Kd.R_mono → uX
attribute [local go_sem] max2_int min2_int max_two min_two max_three min_three max_four min_four   -- for this text's walks alone
set_option linter.unusedVariables false
set_option linter.unusedSimpArgs false

/-! ### spec_FreeBehind: function 20 -/
def spec_FreeBehind.f (k : Nat) (a0_0 : Int) (a0_1 : Int) (a0_2 : Bool) (l0_3 : List (S53)) : Option (Int) := (spec_BeltOk.f k a0_0 a0_1 a0_2 l0_3).bind fun t120 => (if t120 = true then (if (l0_3.length : Int) = 0 then (some a0_0) else (if 0 ≤ (wrap64 ((l0_3.length : Int) - 1)) then (if (wrap64 ((l0_3.length : Int) - 1)) < (l0_3.length : Int) then (some (mx 0 (wrap64 ((wrap64 (((rd_T53 l0_3 (wrap64 ((l0_3.length : Int) - 1))).f1) - ((rd_T53 l0_3 (wrap64 ((l0_3.length : Int) - 1))).f2))) - a0_1)))) else (none)) else (none))) else (some (-1)))
theorem spec_FreeBehind.mono : ∀ a0 a1 a2 a3 k, LeO (spec_FreeBehind.f k a0 a1 a2 a3) (spec_FreeBehind.f (k + 1) a0 a1 a2 a3) := by
 intro a0 a1 a2 a3 k
 unfold spec_FreeBehind.f
 repeat' first
   | (with_reducible exact spec_BeltOk.mono _ _ _ _ _)
   | (with_reducible exact LeO.refl _)
   | (with_reducible exact LeO.none _)
   | (with_reducible refine LeO.ite ?_ ?_)
   | (with_reducible refine LeO.bind ?_ (fun _ => ?_))
   | exact spec_BeltOk.mono _ _ _ _ _
   | exact LeO.none _
   | refine LeO.ite ?_ ?_
   | refine LeO.bind ?_ (fun _ => ?_)
set_option maxHeartbeats 8000000 in
set_option maxRecDepth 100000 in
theorem spec_FreeBehind.calls (k : Nat) (a0_0 : Int) (a0_1 : Int) (a0_2 : Bool) (A0_3 : Option Addr) (c0_3 : Nat) (l0_3 : List (S53)) (r : Int) (w : World) (hr0_3 : Kd.C k53 w A0_3 l0_3.length l0_3) (hc0_3 : l0_3.length ≤ c0_3) (h : spec_FreeBehind.f k a0_0 a0_1 a0_2 l0_3 = some r) :
  Calls Try.prog 20 #[.agg #[.int .i64 a0_0, .int .i64 a0_1, .bool a0_2, .slice A0_3 l0_3.length c0_3]] w fun e w' => e = .returned (.int .i64 r) ∧ Below w.heap.size w w' := by
 have hu29 := Try.underlying29
 have hu53 := Try.underlying53
 have HR0_3 := uD hr0_3
 have HC0_3 := uD hc0_3
 clear hr0_3 hc0_3
 have HB := uD (Below.refl w.heap.size w)
 have H : ((spec_BeltOk.f k a0_0 a0_1 a0_2 l0_3).bind fun t120 => (if t120 = true then (if (l0_3.length : Int) = 0 then (some a0_0) else (if 0 ≤ (wrap64 ((l0_3.length : Int) - 1)) then (if (wrap64 ((l0_3.length : Int) - 1)) < (l0_3.length : Int) then (some (mx 0 (wrap64 ((wrap64 (((rd_T53 l0_3 (wrap64 ((l0_3.length : Int) - 1))).f1) - ((rd_T53 l0_3 (wrap64 ((l0_3.length : Int) - 1))).f2))) - a0_1)))) else (none)) else (none))) else (some (-1)))) = some r := h
 clear h
 replace H := Option.bind_eq_some_iff.mp H
 obtain ⟨t120, A20, H⟩ := H
 replace H : (if t120 = true then (if (l0_3.length : Int) = 0 then (some a0_0) else (if 0 ≤ (wrap64 ((l0_3.length : Int) - 1)) then (if (wrap64 ((l0_3.length : Int) - 1)) < (l0_3.length : Int) then (some (mx 0 (wrap64 ((wrap64 (((rd_T53 l0_3 (wrap64 ((l0_3.length : Int) - 1))).f1) - ((rd_T53 l0_3 (wrap64 ((l0_3.length : Int) - 1))).f2))) - a0_1)))) else (none)) else (none))) else (some (-1))) = some r := H
 have A2 := uD A20
 clear A20
 by_cases c3 : t120 = true
 ·subst c3
  have H1 : (if (l0_3.length : Int) = 0 then (some a0_0) else (if 0 ≤ (wrap64 ((l0_3.length : Int) - 1)) then (if (wrap64 ((l0_3.length : Int) - 1)) < (l0_3.length : Int) then (some (mx 0 (wrap64 ((wrap64 (((rd_T53 l0_3 (wrap64 ((l0_3.length : Int) - 1))).f1) - ((rd_T53 l0_3 (wrap64 ((l0_3.length : Int) - 1))).f2))) - a0_1)))) else (none)) else (none))) = some r := by rw [if_pos rfl] at H; first | done | exact H
  clear H
  have H := H1
  clear H1
  by_cases c4 : (l0_3.length : Int) = 0
  ·rw [if_pos c4] at H
   have c4b0 : ((l0_3.length : Int) == 0) = true := beq_iff_eq.mpr c4
   have c4b1 : ((l0_3.length : Int) != 0) = false := bne_eq_false_iff_eq.mpr c4
   clear c4
   obtain rfl := Option.some.inj H
   go_enter Try.func20, Try.ntmps20
   go_wp2_with (first | ((with_reducible refine gate_dst (N := 1) rfl ?_); refine bx 1 #[.int .i64 a0_0, .int .i64 a0_1, .bool a0_2, .slice A0_3 l0_3.length c0_3] 29 ?_; intro gb119 hg w5 hbox hb; have BK119 := uD (hbox); have GW119 := uD ((by rw [hg]; exact (uN (pb HB)) : w.heap.size ≤ gb119)); have GE119 := uD ((by rw [hg]; exact (uN (pb HB)) : w.heap.size ≤ gb119)); replace HB := uD (uO (pb HB) hb); clear hb hbox hg; obtain ⟨hcz6_0, hcz6_1, hcz6_2, hcz6_3, hfz6_0, hfz6_1, hfz6_2, hfz6_3⟩ := cz4 BK119) | ((with_reducible refine gate_callee (f := 16) rfl ?_); refine gl (some 5) Try.func16 #[.agg #[.int .i64 a0_0, .int .i64 a0_1, .bool a0_2, .slice A0_3 l0_3.length c0_3]] ?_; (with_reducible refine (spec_BeltOk.calls k a0_0 a0_1 a0_2 _ _ l0_3 true _ ?side1 ?side2 A2.out).mono ?_); (case side1 => exact pc (Kd.C_below HR0_3.out HB.out)); (case side2 => exact HC0_3.out); rintro e w7 ⟨rfl, hb⟩; refine ⟨_, rfl, ?_⟩; replace BK119 := uD (blk_below (pk BK119) hb); replace HB := uD (uO (pb HB) hb); (try clear hb); (try clear hb2); (try clear hk); (try clear hi); obtain ⟨hcz8_0, hcz8_1, hcz8_2, hcz8_3, hfz8_0, hfz8_1, hfz8_2, hfz8_3⟩ := cz4 BK119))
   go_ret
   exact ⟨by first | rfl | (simp [errW_none, errW_some] <;> rfl) | (simp [*, errW_none, errW_some] <;> rfl), pb HB⟩
  ·rw [if_neg c4] at H
   have c4b0 : ((l0_3.length : Int) == 0) = false := beq_eq_false_iff_ne.mpr c4
   have c4b1 : ((l0_3.length : Int) != 0) = true := bne_iff_ne.mpr c4
   have c4b2 : ¬ (l0_3 = []) := fun h_ => c4 (by rw [h_]; rfl)
   obtain ⟨ji9, hji9⟩ : ∃ j_ : Int, (wrap64 ((l0_3.length : Int) - 1)) = j_ := ⟨_, rfl⟩
   replace H : (if 0 ≤ (ji9) then (if (ji9) < (l0_3.length : Int) then (some (mx 0 (wrap64 ((wrap64 (((rd_T53 l0_3 (ji9)).f1) - ((rd_T53 l0_3 (ji9)).f2))) - a0_1)))) else (none)) else (none)) = some r := by first | (rw [hji9] at H; exact H) | (simp only [hji9] at H ⊢; exact H)
   (try rw [hji9] at A2)
   have hji9w : (IntKind.i64.wrap ((l0_3.length : Int) - 1)) = ji9 := (uZ _).trans hji9
   by_cases c10 : 0 ≤ (ji9)
   ·rw [if_pos c10] at H
    have c10b0 : decide (0 ≤ (ji9)) = true := decide_eq_true c10
    clear c10
    by_cases c11 : (ji9) < (l0_3.length : Int)
    ·rw [if_pos c11] at H
     have c11b0 : decide ((ji9) < (l0_3.length : Int)) = true := decide_eq_true c11
     clear c11
     obtain ⟨ji12, hji12⟩ : ∃ j_ : Int, (mx 0 (wrap64 ((wrap64 (((rd_T53 l0_3 (ji9)).f1) - ((rd_T53 l0_3 (ji9)).f2))) - a0_1))) = j_ := ⟨_, rfl⟩
     replace H : (some ji12) = some r := by first | (rw [hji12] at H; exact H) | (simp only [hji12] at H ⊢; exact H)
     (try rw [hji12] at A2)
     have hji12_ : (if 0 < (wrap64 ((wrap64 (((rd_T53 l0_3 (ji9)).f1) - ((rd_T53 l0_3 (ji9)).f2))) - a0_1)) then (wrap64 ((wrap64 (((rd_T53 l0_3 (ji9)).f1) - ((rd_T53 l0_3 (ji9)).f2))) - a0_1)) else 0) = ji12 := hji12
     obtain rfl := Option.some.inj H
     go_enter Try.func20, Try.ntmps20
     go_wp2_with (first | ((with_reducible refine gate_dst (N := 1) rfl ?_); refine bx 1 #[.int .i64 a0_0, .int .i64 a0_1, .bool a0_2, .slice A0_3 l0_3.length c0_3] 29 ?_; intro gb119 hg w13 hbox hb; have BK119 := uD (hbox); have GW119 := uD ((by rw [hg]; exact (uN (pb HB)) : w.heap.size ≤ gb119)); have GE119 := uD ((by rw [hg]; exact (uN (pb HB)) : w.heap.size ≤ gb119)); replace HB := uD (uO (pb HB) hb); clear hb hbox hg; obtain ⟨hcz14_0, hcz14_1, hcz14_2, hcz14_3, hfz14_0, hfz14_1, hfz14_2, hfz14_3⟩ := cz4 BK119) | ((with_reducible refine gate_callee (f := 16) rfl ?_); refine gl (some 5) Try.func16 #[.agg #[.int .i64 a0_0, .int .i64 a0_1, .bool a0_2, .slice A0_3 l0_3.length c0_3]] ?_; (with_reducible refine (spec_BeltOk.calls k a0_0 a0_1 a0_2 _ _ l0_3 true _ ?side1 ?side2 A2.out).mono ?_); (case side1 => exact pc (Kd.C_below HR0_3.out HB.out)); (case side2 => exact HC0_3.out); rintro e w15 ⟨rfl, hb⟩; refine ⟨_, rfl, ?_⟩; replace BK119 := uD (blk_below (pk BK119) hb); replace HB := uD (uO (pb HB) hb); (try clear hb); (try clear hb2); (try clear hk); (try clear hi); obtain ⟨hcz16_0, hcz16_1, hcz16_2, hcz16_3, hfz16_0, hfz16_1, hfz16_2, hfz16_3⟩ := cz4 BK119; have p121 : 0 ≤ ((ji9) : Int) := of_decide_eq_true (by first | (with_reducible assumption) | assumption); have q121 : (ji9) < (l0_3.length : Int) := of_decide_eq_true (by first | (with_reducible assumption) | assumption); obtain ⟨ad121, e121, hx121_0, hx121_1, hx121_2⟩ := at_T53 HR0_3.out (ji9) p121 q121; cases e121; replace hx121_0 := (HB.out.cell (World.block_lt_of_cell? w _ hx121_0)).trans hx121_0; replace hx121_1 := (HB.out.cell (World.block_lt_of_cell? w _ hx121_1)).trans hx121_1; replace hx121_2 := (HB.out.cell (World.block_lt_of_cell? w _ hx121_2)).trans hx121_2; replace p121 := eq_true p121; replace q121 := eq_true q121) | ((with_reducible refine gate_dst (N := 3) rfl ?_); refine bx 3 #[.int .i64 0, .int .i64 0, .int .i64 0] 53 ?_; intro gb122 hg w17 hbox hb; have BK122 := uD (hbox); have GW122 := uD ((by rw [hg]; exact (uN (pb HB)) : w.heap.size ≤ gb122)); have GE122 := uD ((by rw [hg]; exact (uN (pb HB)) : w.heap.size ≤ gb122)); replace HB := uD (uO (pb HB) hb); have NB119_122 := uD ((by rw [hg]; exact Nat.ne_of_lt (blk_lt (pk BK119)) : gb119 ≠ gb122)); have NB122_119 := uD ((by rw [hg]; exact Nat.ne_of_gt (blk_lt (pk BK119)) : gb122 ≠ gb119)); replace BK119 := uD (blk_below (pk BK119) hb); clear hb hbox hg; have hnb18 := NB122_119.out; have hnc18 := NB119_122.out; obtain ⟨hcz19_0, hcz19_1, hcz19_2, hfz19_0, hfz19_1, hfz19_2⟩ := cz3 BK122; obtain ⟨hcz20_0, hcz20_1, hcz20_2, hcz20_3, hfz20_0, hfz20_1, hfz20_2, hfz20_3⟩ := cz4 BK119))
     go_ret
     exact ⟨by first | rfl | (simp [errW_none, errW_some] <;> rfl) | (simp only [← hji9, ← hji12]; first | rfl | (simp [errW_none, errW_some] <;> rfl)) | (simp [*, errW_none, errW_some] <;> rfl), pb HB⟩
    ·rw [if_neg c11] at H
     exact absurd H (by simp)
   ·rw [if_neg c10] at H
    exact absurd H (by simp)
 ·replace c3 := Bool.eq_false_iff.mpr c3
  subst c3
  have H1 : (some (-1)) = some r := by rw [if_neg (show ¬ (false = true) by decide)] at H; first | done | exact H
  clear H
  have H := H1
  clear H1
  obtain rfl := Option.some.inj H
  go_enter Try.func20, Try.ntmps20
  go_wp2_with (first | ((with_reducible refine gate_dst (N := 1) rfl ?_); refine bx 1 #[.int .i64 a0_0, .int .i64 a0_1, .bool a0_2, .slice A0_3 l0_3.length c0_3] 29 ?_; intro gb119 hg w21 hbox hb; have BK119 := uD (hbox); have GW119 := uD ((by rw [hg]; exact (uN (pb HB)) : w.heap.size ≤ gb119)); have GE119 := uD ((by rw [hg]; exact (uN (pb HB)) : w.heap.size ≤ gb119)); replace HB := uD (uO (pb HB) hb); clear hb hbox hg; obtain ⟨hcz22_0, hcz22_1, hcz22_2, hcz22_3, hfz22_0, hfz22_1, hfz22_2, hfz22_3⟩ := cz4 BK119) | ((with_reducible refine gate_callee (f := 16) rfl ?_); refine gl (some 5) Try.func16 #[.agg #[.int .i64 a0_0, .int .i64 a0_1, .bool a0_2, .slice A0_3 l0_3.length c0_3]] ?_; (with_reducible refine (spec_BeltOk.calls k a0_0 a0_1 a0_2 _ _ l0_3 false _ ?side1 ?side2 A2.out).mono ?_); (case side1 => exact pc (Kd.C_below HR0_3.out HB.out)); (case side2 => exact HC0_3.out); rintro e w23 ⟨rfl, hb⟩; refine ⟨_, rfl, ?_⟩; replace BK119 := uD (blk_below (pk BK119) hb); replace HB := uD (uO (pb HB) hb); (try clear hb); (try clear hb2); (try clear hk); (try clear hi)))
  go_ret
  exact ⟨by first | rfl | (simp [errW_none, errW_some] <;> rfl) | (simp [*, errW_none, errW_some] <;> rfl), pb HB⟩

/-! ### impl_FreeBehind: function 21 -/
def impl_FreeBehind.f (k : Nat) (a0_0 : Int) (a0_1 : Int) (a0_2 : Bool) (l0_3 : List (S53)) : Option (Int) := (impl_BeltOk.f k a0_0 a0_1 a0_2 l0_3).bind fun t124 => (if t124 = true then (if (l0_3.length : Int) = 0 then (some a0_0) else (if 0 ≤ (wrap64 ((l0_3.length : Int) - 1)) then (if (wrap64 ((l0_3.length : Int) - 1)) < (l0_3.length : Int) then (some (mx 0 (wrap64 ((wrap64 (((rd_T53 l0_3 (wrap64 ((l0_3.length : Int) - 1))).f1) - ((rd_T53 l0_3 (wrap64 ((l0_3.length : Int) - 1))).f2))) - a0_1)))) else (none)) else (none))) else (some (-1)))
theorem impl_FreeBehind.mono : ∀ a0 a1 a2 a3 k, LeO (impl_FreeBehind.f k a0 a1 a2 a3) (impl_FreeBehind.f (k + 1) a0 a1 a2 a3) := by
 intro a0 a1 a2 a3 k
 unfold impl_FreeBehind.f
 repeat' first
   | (with_reducible exact impl_BeltOk.mono _ _ _ _ _)
   | (with_reducible exact LeO.refl _)
   | (with_reducible exact LeO.none _)
   | (with_reducible refine LeO.ite ?_ ?_)
   | (with_reducible refine LeO.bind ?_ (fun _ => ?_))
   | exact impl_BeltOk.mono _ _ _ _ _
   | exact LeO.none _
   | refine LeO.ite ?_ ?_
   | refine LeO.bind ?_ (fun _ => ?_)
set_option maxHeartbeats 8000000 in
set_option maxRecDepth 100000 in
theorem impl_FreeBehind.calls (k : Nat) (a0_0 : Int) (a0_1 : Int) (a0_2 : Bool) (A0_3 : Option Addr) (c0_3 : Nat) (l0_3 : List (S53)) (r : Int) (w : World) (hr0_3 : Kd.C k53 w A0_3 l0_3.length l0_3) (hc0_3 : l0_3.length ≤ c0_3) (h : impl_FreeBehind.f k a0_0 a0_1 a0_2 l0_3 = some r) :
  Calls Try.prog 21 #[.agg #[.int .i64 a0_0, .int .i64 a0_1, .bool a0_2, .slice A0_3 l0_3.length c0_3]] w fun e w' => e = .returned (.int .i64 r) ∧ Below w.heap.size w w' := by
 have hu29 := Try.underlying29
 have hu53 := Try.underlying53
 have HR0_3 := uD hr0_3
 have HC0_3 := uD hc0_3
 clear hr0_3 hc0_3
 have HB := uD (Below.refl w.heap.size w)
 have H : ((impl_BeltOk.f k a0_0 a0_1 a0_2 l0_3).bind fun t124 => (if t124 = true then (if (l0_3.length : Int) = 0 then (some a0_0) else (if 0 ≤ (wrap64 ((l0_3.length : Int) - 1)) then (if (wrap64 ((l0_3.length : Int) - 1)) < (l0_3.length : Int) then (some (mx 0 (wrap64 ((wrap64 (((rd_T53 l0_3 (wrap64 ((l0_3.length : Int) - 1))).f1) - ((rd_T53 l0_3 (wrap64 ((l0_3.length : Int) - 1))).f2))) - a0_1)))) else (none)) else (none))) else (some (-1)))) = some r := h
 clear h
 replace H := Option.bind_eq_some_iff.mp H
 obtain ⟨t124, A20, H⟩ := H
 replace H : (if t124 = true then (if (l0_3.length : Int) = 0 then (some a0_0) else (if 0 ≤ (wrap64 ((l0_3.length : Int) - 1)) then (if (wrap64 ((l0_3.length : Int) - 1)) < (l0_3.length : Int) then (some (mx 0 (wrap64 ((wrap64 (((rd_T53 l0_3 (wrap64 ((l0_3.length : Int) - 1))).f1) - ((rd_T53 l0_3 (wrap64 ((l0_3.length : Int) - 1))).f2))) - a0_1)))) else (none)) else (none))) else (some (-1))) = some r := H
 have A2 := uD A20
 clear A20
 by_cases c3 : t124 = true
 ·subst c3
  have H1 : (if (l0_3.length : Int) = 0 then (some a0_0) else (if 0 ≤ (wrap64 ((l0_3.length : Int) - 1)) then (if (wrap64 ((l0_3.length : Int) - 1)) < (l0_3.length : Int) then (some (mx 0 (wrap64 ((wrap64 (((rd_T53 l0_3 (wrap64 ((l0_3.length : Int) - 1))).f1) - ((rd_T53 l0_3 (wrap64 ((l0_3.length : Int) - 1))).f2))) - a0_1)))) else (none)) else (none))) = some r := by rw [if_pos rfl] at H; first | done | exact H
  clear H
  have H := H1
  clear H1
  by_cases c4 : (l0_3.length : Int) = 0
  ·rw [if_pos c4] at H
   have c4b0 : ((l0_3.length : Int) == 0) = true := beq_iff_eq.mpr c4
   have c4b1 : ((l0_3.length : Int) != 0) = false := bne_eq_false_iff_eq.mpr c4
   clear c4
   obtain rfl := Option.some.inj H
   go_enter Try.func21, Try.ntmps21
   go_wp2_with (first | ((with_reducible refine gate_dst (N := 1) rfl ?_); refine bx 1 #[.int .i64 a0_0, .int .i64 a0_1, .bool a0_2, .slice A0_3 l0_3.length c0_3] 29 ?_; intro gb123 hg w5 hbox hb; have BK123 := uD (hbox); have GW123 := uD ((by rw [hg]; exact (uN (pb HB)) : w.heap.size ≤ gb123)); have GE123 := uD ((by rw [hg]; exact (uN (pb HB)) : w.heap.size ≤ gb123)); replace HB := uD (uO (pb HB) hb); clear hb hbox hg; obtain ⟨hcz6_0, hcz6_1, hcz6_2, hcz6_3, hfz6_0, hfz6_1, hfz6_2, hfz6_3⟩ := cz4 BK123) | ((with_reducible refine gate_callee (f := 18) rfl ?_); refine gl (some 5) Try.func18 #[.agg #[.int .i64 a0_0, .int .i64 a0_1, .bool a0_2, .slice A0_3 l0_3.length c0_3]] ?_; (with_reducible refine (impl_BeltOk.calls k a0_0 a0_1 a0_2 _ _ l0_3 true _ ?side1 ?side2 A2.out).mono ?_); (case side1 => exact pc (Kd.C_below HR0_3.out HB.out)); (case side2 => exact HC0_3.out); rintro e w7 ⟨rfl, hb⟩; refine ⟨_, rfl, ?_⟩; replace BK123 := uD (blk_below (pk BK123) hb); replace HB := uD (uO (pb HB) hb); (try clear hb); (try clear hb2); (try clear hk); (try clear hi); obtain ⟨hcz8_0, hcz8_1, hcz8_2, hcz8_3, hfz8_0, hfz8_1, hfz8_2, hfz8_3⟩ := cz4 BK123))
   go_ret
   exact ⟨by first | rfl | (simp [errW_none, errW_some] <;> rfl) | (simp [*, errW_none, errW_some] <;> rfl), pb HB⟩
  ·rw [if_neg c4] at H
   have c4b0 : ((l0_3.length : Int) == 0) = false := beq_eq_false_iff_ne.mpr c4
   have c4b1 : ((l0_3.length : Int) != 0) = true := bne_iff_ne.mpr c4
   have c4b2 : ¬ (l0_3 = []) := fun h_ => c4 (by rw [h_]; rfl)
   obtain ⟨ji9, hji9⟩ : ∃ j_ : Int, (wrap64 ((l0_3.length : Int) - 1)) = j_ := ⟨_, rfl⟩
   replace H : (if 0 ≤ (ji9) then (if (ji9) < (l0_3.length : Int) then (some (mx 0 (wrap64 ((wrap64 (((rd_T53 l0_3 (ji9)).f1) - ((rd_T53 l0_3 (ji9)).f2))) - a0_1)))) else (none)) else (none)) = some r := by first | (rw [hji9] at H; exact H) | (simp only [hji9] at H ⊢; exact H)
   (try rw [hji9] at A2)
   have hji9w : (IntKind.i64.wrap ((l0_3.length : Int) - 1)) = ji9 := (uZ _).trans hji9
   by_cases c10 : 0 ≤ (ji9)
   ·rw [if_pos c10] at H
    have c10b0 : decide (0 ≤ (ji9)) = true := decide_eq_true c10
    clear c10
    by_cases c11 : (ji9) < (l0_3.length : Int)
    ·rw [if_pos c11] at H
     have c11b0 : decide ((ji9) < (l0_3.length : Int)) = true := decide_eq_true c11
     clear c11
     obtain ⟨ji12, hji12⟩ : ∃ j_ : Int, (mx 0 (wrap64 ((wrap64 (((rd_T53 l0_3 (ji9)).f1) - ((rd_T53 l0_3 (ji9)).f2))) - a0_1))) = j_ := ⟨_, rfl⟩
     replace H : (some ji12) = some r := by first | (rw [hji12] at H; exact H) | (simp only [hji12] at H ⊢; exact H)
     (try rw [hji12] at A2)
     have hji12_ : (if 0 < (wrap64 ((wrap64 (((rd_T53 l0_3 (ji9)).f1) - ((rd_T53 l0_3 (ji9)).f2))) - a0_1)) then (wrap64 ((wrap64 (((rd_T53 l0_3 (ji9)).f1) - ((rd_T53 l0_3 (ji9)).f2))) - a0_1)) else 0) = ji12 := hji12
     obtain rfl := Option.some.inj H
     go_enter Try.func21, Try.ntmps21
     go_wp2_with (first | ((with_reducible refine gate_dst (N := 1) rfl ?_); refine bx 1 #[.int .i64 a0_0, .int .i64 a0_1, .bool a0_2, .slice A0_3 l0_3.length c0_3] 29 ?_; intro gb123 hg w13 hbox hb; have BK123 := uD (hbox); have GW123 := uD ((by rw [hg]; exact (uN (pb HB)) : w.heap.size ≤ gb123)); have GE123 := uD ((by rw [hg]; exact (uN (pb HB)) : w.heap.size ≤ gb123)); replace HB := uD (uO (pb HB) hb); clear hb hbox hg; obtain ⟨hcz14_0, hcz14_1, hcz14_2, hcz14_3, hfz14_0, hfz14_1, hfz14_2, hfz14_3⟩ := cz4 BK123) | ((with_reducible refine gate_callee (f := 18) rfl ?_); refine gl (some 5) Try.func18 #[.agg #[.int .i64 a0_0, .int .i64 a0_1, .bool a0_2, .slice A0_3 l0_3.length c0_3]] ?_; (with_reducible refine (impl_BeltOk.calls k a0_0 a0_1 a0_2 _ _ l0_3 true _ ?side1 ?side2 A2.out).mono ?_); (case side1 => exact pc (Kd.C_below HR0_3.out HB.out)); (case side2 => exact HC0_3.out); rintro e w15 ⟨rfl, hb⟩; refine ⟨_, rfl, ?_⟩; replace BK123 := uD (blk_below (pk BK123) hb); replace HB := uD (uO (pb HB) hb); (try clear hb); (try clear hb2); (try clear hk); (try clear hi); obtain ⟨hcz16_0, hcz16_1, hcz16_2, hcz16_3, hfz16_0, hfz16_1, hfz16_2, hfz16_3⟩ := cz4 BK123; have p125 : 0 ≤ ((ji9) : Int) := of_decide_eq_true (by first | (with_reducible assumption) | assumption); have q125 : (ji9) < (l0_3.length : Int) := of_decide_eq_true (by first | (with_reducible assumption) | assumption); obtain ⟨ad125, e125, hx125_0, hx125_1, hx125_2⟩ := at_T53 HR0_3.out (ji9) p125 q125; cases e125; replace hx125_0 := (HB.out.cell (World.block_lt_of_cell? w _ hx125_0)).trans hx125_0; replace hx125_1 := (HB.out.cell (World.block_lt_of_cell? w _ hx125_1)).trans hx125_1; replace hx125_2 := (HB.out.cell (World.block_lt_of_cell? w _ hx125_2)).trans hx125_2; replace p125 := eq_true p125; replace q125 := eq_true q125) | ((with_reducible refine gate_dst (N := 3) rfl ?_); refine bx 3 #[.int .i64 0, .int .i64 0, .int .i64 0] 53 ?_; intro gb126 hg w17 hbox hb; have BK126 := uD (hbox); have GW126 := uD ((by rw [hg]; exact (uN (pb HB)) : w.heap.size ≤ gb126)); have GE126 := uD ((by rw [hg]; exact (uN (pb HB)) : w.heap.size ≤ gb126)); replace HB := uD (uO (pb HB) hb); have NB123_126 := uD ((by rw [hg]; exact Nat.ne_of_lt (blk_lt (pk BK123)) : gb123 ≠ gb126)); have NB126_123 := uD ((by rw [hg]; exact Nat.ne_of_gt (blk_lt (pk BK123)) : gb126 ≠ gb123)); replace BK123 := uD (blk_below (pk BK123) hb); clear hb hbox hg; have hnb18 := NB126_123.out; have hnc18 := NB123_126.out; obtain ⟨hcz19_0, hcz19_1, hcz19_2, hfz19_0, hfz19_1, hfz19_2⟩ := cz3 BK126; obtain ⟨hcz20_0, hcz20_1, hcz20_2, hcz20_3, hfz20_0, hfz20_1, hfz20_2, hfz20_3⟩ := cz4 BK123))
     go_ret
     exact ⟨by first | rfl | (simp [errW_none, errW_some] <;> rfl) | (simp only [← hji9, ← hji12]; first | rfl | (simp [errW_none, errW_some] <;> rfl)) | (simp [*, errW_none, errW_some] <;> rfl), pb HB⟩
    ·rw [if_neg c11] at H
     exact absurd H (by simp)
   ·rw [if_neg c10] at H
    exact absurd H (by simp)
 ·replace c3 := Bool.eq_false_iff.mpr c3
  subst c3
  have H1 : (some (-1)) = some r := by rw [if_neg (show ¬ (false = true) by decide)] at H; first | done | exact H
  clear H
  have H := H1
  clear H1
  obtain rfl := Option.some.inj H
  go_enter Try.func21, Try.ntmps21
  go_wp2_with (first | ((with_reducible refine gate_dst (N := 1) rfl ?_); refine bx 1 #[.int .i64 a0_0, .int .i64 a0_1, .bool a0_2, .slice A0_3 l0_3.length c0_3] 29 ?_; intro gb123 hg w21 hbox hb; have BK123 := uD (hbox); have GW123 := uD ((by rw [hg]; exact (uN (pb HB)) : w.heap.size ≤ gb123)); have GE123 := uD ((by rw [hg]; exact (uN (pb HB)) : w.heap.size ≤ gb123)); replace HB := uD (uO (pb HB) hb); clear hb hbox hg; obtain ⟨hcz22_0, hcz22_1, hcz22_2, hcz22_3, hfz22_0, hfz22_1, hfz22_2, hfz22_3⟩ := cz4 BK123) | ((with_reducible refine gate_callee (f := 18) rfl ?_); refine gl (some 5) Try.func18 #[.agg #[.int .i64 a0_0, .int .i64 a0_1, .bool a0_2, .slice A0_3 l0_3.length c0_3]] ?_; (with_reducible refine (impl_BeltOk.calls k a0_0 a0_1 a0_2 _ _ l0_3 false _ ?side1 ?side2 A2.out).mono ?_); (case side1 => exact pc (Kd.C_below HR0_3.out HB.out)); (case side2 => exact HC0_3.out); rintro e w23 ⟨rfl, hb⟩; refine ⟨_, rfl, ?_⟩; replace BK123 := uD (blk_below (pk BK123) hb); replace HB := uD (uO (pb HB) hb); (try clear hb); (try clear hb2); (try clear hk); (try clear hi)))
  go_ret
  exact ⟨by first | rfl | (simp [errW_none, errW_some] <;> rfl) | (simp [*, errW_none, errW_some] <;> rfl), pb HB⟩

/-! ### impl_CoverAt: function 23 -/
def impl_CoverAt.l0 : Nat → Int → List (S53) → Int → Int → Option (Int)
 | 0, _, _, _, _ => none
 | k + 1, x1, x10, x11, x12 => if x12 < x11 then (if 0 ≤ x12 then (if x12 < (x10.length : Int) then (if x1 ≤ ((rd_T53 x10 x12).f1) then (if x1 > (wrap64 (((rd_T53 x10 x12).f1) - ((rd_T53 x10 x12).f2))) then (some ((rd_T53 x10 x12).f0)) else (impl_CoverAt.l0 k x1 x10 x11 (wrap64 (x12 + 1)))) else (impl_CoverAt.l0 k x1 x10 x11 (wrap64 (x12 + 1)))) else (none)) else (none)) else (some 0)
def impl_CoverAt.f (k : Nat) (a0_0 : Int) (a0_1 : Int) (a0_2 : Bool) (l0_3 : List (S53)) (a1 : Int) : Option (Int) := (impl_BeltOk.f k a0_0 a0_1 a0_2 l0_3).bind fun t128 => (if t128 = true then (impl_CoverAt.l0 k a1 l0_3 (l0_3.length : Int) 0) else (some 0))
theorem impl_CoverAt.mono_l : ∀ k, (∀ y0 y1 y2 y3, LeO (impl_CoverAt.l0 k y0 y1 y2 y3) (impl_CoverAt.l0 (k + 1) y0 y1 y2 y3))
 | 0 => fun _ _ _ _ r h => by simp [impl_CoverAt.l0] at h
 | k + 1 => by
  have ih0 := impl_CoverAt.mono_l k
  ·intro y0 y1 y2 y3
   unfold impl_CoverAt.l0
   repeat' first
   | (with_reducible exact ih0 _ _ _ _)
   | (with_reducible exact impl_BeltOk.mono _ _ _ _ _)
   | (with_reducible exact LeO.refl _)
   | (with_reducible exact LeO.none _)
   | (with_reducible refine LeO.ite ?_ ?_)
   | (with_reducible refine LeO.bind ?_ (fun _ => ?_))
   | exact ih0 _ _ _ _
   | exact impl_BeltOk.mono _ _ _ _ _
   | exact LeO.none _
   | refine LeO.ite ?_ ?_
   | refine LeO.bind ?_ (fun _ => ?_)
theorem impl_CoverAt.mono : ∀ a0 a1 a2 a3 a4 k, LeO (impl_CoverAt.f k a0 a1 a2 a3 a4) (impl_CoverAt.f (k + 1) a0 a1 a2 a3 a4) := by
 intro a0 a1 a2 a3 a4 k
 have ih0 := impl_CoverAt.mono_l k
 unfold impl_CoverAt.f
 repeat' first
   | (with_reducible exact ih0 _ _ _ _)
   | (with_reducible exact impl_BeltOk.mono _ _ _ _ _)
   | (with_reducible exact LeO.refl _)
   | (with_reducible exact LeO.none _)
   | (with_reducible refine LeO.ite ?_ ?_)
   | (with_reducible refine LeO.bind ?_ (fun _ => ?_))
   | exact ih0 _ _ _ _
   | exact impl_BeltOk.mono _ _ _ _ _
   | exact LeO.none _
   | refine LeO.ite ?_ ?_
   | refine LeO.bind ?_ (fun _ => ?_)
set_option maxHeartbeats 8000000 in
set_option maxRecDepth 100000 in
theorem impl_CoverAt.calls (k : Nat) (a0_0 : Int) (a0_1 : Int) (a0_2 : Bool) (A0_3 : Option Addr) (c0_3 : Nat) (l0_3 : List (S53)) (a1 : Int) (r : Int) (w : World) (hr0_3 : Kd.C k53 w A0_3 l0_3.length l0_3) (hc0_3 : l0_3.length ≤ c0_3) (h : impl_CoverAt.f k a0_0 a0_1 a0_2 l0_3 a1 = some r) :
  Calls Try.prog 23 #[.agg #[.int .i64 a0_0, .int .i64 a0_1, .bool a0_2, .slice A0_3 l0_3.length c0_3], .int .i64 a1] w fun e w' => e = .returned (.int .i64 r) ∧ Below w.heap.size w w' := by
 have hu29 := Try.underlying29
 have hu53 := Try.underlying53
 have HR0_3 := uD hr0_3
 have HC0_3 := uD hc0_3
 clear hr0_3 hc0_3
 have HB := uD (Below.refl w.heap.size w)
 have H : ((impl_BeltOk.f k a0_0 a0_1 a0_2 l0_3).bind fun t128 => (if t128 = true then (impl_CoverAt.l0 k a1 l0_3 (l0_3.length : Int) 0) else (some 0))) = some r := h
 clear h
 replace H := Option.bind_eq_some_iff.mp H
 obtain ⟨t128, A30, H⟩ := H
 replace H : (if t128 = true then (impl_CoverAt.l0 k a1 l0_3 (l0_3.length : Int) 0) else (some 0)) = some r := H
 have A3 := uD A30
 clear A30
 by_cases c4 : t128 = true
 ·subst c4
  have H1 : (impl_CoverAt.l0 k a1 l0_3 (l0_3.length : Int) 0) = some r := by rw [if_pos rfl] at H; first | done | exact H
  clear H
  have H := H1
  clear H1
  have H' := uD H
  clear H
  go_enter Try.func23, Try.ntmps23
  go_wp2_with (first | ((with_reducible refine gate_dst (N := 2) rfl ?_); refine bx 2 #[.int .i64 a0_0, .int .i64 a0_1, .bool a0_2, .slice A0_3 l0_3.length c0_3] 29 ?_; intro gb127 hg w5 hbox hb; have BK127 := uD (hbox); have GW127 := uD ((by rw [hg]; exact (uN (pb HB)) : w.heap.size ≤ gb127)); have GE127 := uD ((by rw [hg]; exact (uN (pb HB)) : w.heap.size ≤ gb127)); replace HB := uD (uO (pb HB) hb); clear hb hbox hg; obtain ⟨hcz6_0, hcz6_1, hcz6_2, hcz6_3, hfz6_0, hfz6_1, hfz6_2, hfz6_3⟩ := cz4 BK127) | ((with_reducible refine gate_callee (f := 18) rfl ?_); refine gl (some 8) Try.func18 #[.agg #[.int .i64 a0_0, .int .i64 a0_1, .bool a0_2, .slice A0_3 l0_3.length c0_3]] ?_; (with_reducible refine (impl_BeltOk.calls k a0_0 a0_1 a0_2 _ _ l0_3 true _ ?side1 ?side2 A3.out).mono ?_); (case side1 => exact pc (Kd.C_below HR0_3.out HB.out)); (case side2 => exact HC0_3.out); rintro e w7 ⟨rfl, hb⟩; refine ⟨_, rfl, ?_⟩; replace BK127 := uD (blk_below (pk BK127) hb); replace HB := uD (uO (pb HB) hb); (try clear hb); (try clear hb2); (try clear hk); (try clear hi); obtain ⟨hcz8_0, hcz8_1, hcz8_2, hcz8_3, hfz8_0, hfz8_1, hfz8_2, hfz8_3⟩ := cz4 BK127))
  go_loopg [12] k (fun kq v12 w' => ∃ (x12_1 : Int), v12 = .int .i64 x12_1 ∧ Aside0 (impl_CoverAt.l0 kq a1 l0_3 (l0_3.length : Int) x12_1 = some r) ∧ Aside0 (kq ≤ k) ∧ Aside0 (w'.heap[gb127]? = some (.cells #[.int .i64 a0_0, .int .i64 a0_1, .bool a0_2, (.slice A0_3 l0_3.length c0_3)] 29 (0, 0))) ∧ Aside0 (Below w.heap.size w w'))
  case atStart => exact ⟨(0), (by first | rfl | (simp; done) | (simp [*]; done)), H', ⟨Nat.le_refl _⟩, ⟨by (with_reducible repeat first|apply uH|apply uJ|apply uG); exact BK127.out⟩, ⟨pb HB⟩⟩
  case round =>
   clear H'
   try clear c1
   try clear c2
   try clear p2
   try clear c4
   try clear hcz6_0
   try clear hcz6_1
   try clear hcz6_2
   try clear hcz6_3
   try clear hcz8_0
   try clear hcz8_1
   try clear hcz8_2
   try clear hcz8_3
   try clear hfz6_0
   try clear hfz6_1
   try clear hfz6_2
   try clear hfz6_3
   try clear hfz8_0
   try clear hfz8_1
   try clear hfz8_2
   try clear hfz8_3
   obtain ⟨x12_1, rfl, HA, HK1, BK127, HB⟩ := hrel
   cases gk with
   | zero => exact absurd HA.out (by simp [impl_CoverAt.l0])
   | succ k1 =>
    have H := HA.out
    clear HA
    simp only [impl_CoverAt.l0] at H
    by_cases c9 : x12_1 < (l0_3.length : Int)
    ·rw [if_pos c9] at H
     have c9b0 : decide (x12_1 < (l0_3.length : Int)) = true := decide_eq_true c9
     clear c9
     by_cases c10 : 0 ≤ x12_1
     ·rw [if_pos c10] at H
      have c10b0 : decide (0 ≤ x12_1) = true := decide_eq_true c10
      clear c10
      by_cases c11 : x12_1 < (l0_3.length : Int)
      ·rw [if_pos c11] at H
       have c11b0 : decide (x12_1 < (l0_3.length : Int)) = true := decide_eq_true c11
       clear c11
       (try simp [c11b0] at c9b0)
       by_cases c12 : a1 ≤ ((rd_T53 l0_3 x12_1).f1)
       ·rw [if_pos c12] at H
        have c12b0 : decide (a1 ≤ ((rd_T53 l0_3 x12_1).f1)) = true := decide_eq_true c12
        clear c12
        by_cases c13 : a1 > (wrap64 (((rd_T53 l0_3 x12_1).f1) - ((rd_T53 l0_3 x12_1).f2)))
        ·rw [if_pos c13] at H
         have c13b0 : decide ((wrap64 (((rd_T53 l0_3 x12_1).f1) - ((rd_T53 l0_3 x12_1).f2))) < a1) = true := decide_eq_true c13
         clear c13
         obtain rfl := Option.some.inj H
         have p129 : 0 ≤ (x12_1 : Int) := of_decide_eq_true (by first | (with_reducible assumption) | assumption)
         have q129 : x12_1 < (l0_3.length : Int) := of_decide_eq_true (by first | (with_reducible assumption) | assumption)
         obtain ⟨ad129, e129, hx129_0, hx129_1, hx129_2⟩ := at_T53 HR0_3.out x12_1 p129 q129
         cases e129
         replace hx129_0 := (HB.out.cell (World.block_lt_of_cell? w _ hx129_0)).trans hx129_0
         replace hx129_1 := (HB.out.cell (World.block_lt_of_cell? w _ hx129_1)).trans hx129_1
         replace hx129_2 := (HB.out.cell (World.block_lt_of_cell? w _ hx129_2)).trans hx129_2
         replace p129 := eq_true p129
         replace q129 := eq_true q129
         go_wp2_with (first | ((with_reducible refine gate_dst (N := 6) rfl ?_); refine bx 6 #[.int .i64 0, .int .i64 0, .int .i64 0] 53 ?_; intro gb130 hg w14 hbox hb; have BK130 := uD (hbox); have GW130 := uD ((by rw [hg]; exact (uN (pb HB)) : w.heap.size ≤ gb130)); have GE130 := uD ((by rw [hg]; exact (uN (pb HB)) : w.heap.size ≤ gb130)); replace HB := uD (uO (pb HB) hb); have NB127_130 := uD ((by rw [hg]; exact Nat.ne_of_lt (blk_lt (pk BK127)) : gb127 ≠ gb130)); have NB130_127 := uD ((by rw [hg]; exact Nat.ne_of_gt (blk_lt (pk BK127)) : gb130 ≠ gb127)); replace BK127 := uD (blk_below (pk BK127) hb); clear hb hbox hg; have hnb15 := NB130_127.out; have hnc15 := NB127_130.out; obtain ⟨hcz16_0, hcz16_1, hcz16_2, hfz16_0, hfz16_1, hfz16_2⟩ := cz3 BK130))
         go_ret
         exact ⟨by first | rfl | (simp [errW_none, errW_some] <;> rfl) | (simp [*, errW_none, errW_some] <;> rfl), pb HB⟩
        ·rw [if_neg c13] at H
         have c13b0 : decide ((wrap64 (((rd_T53 l0_3 x12_1).f1) - ((rd_T53 l0_3 x12_1).f2))) < a1) = false := decide_eq_false c13
         clear c13
         have H' := uD H
         clear H
         have p129 : 0 ≤ (x12_1 : Int) := of_decide_eq_true (by first | (with_reducible assumption) | assumption)
         have q129 : x12_1 < (l0_3.length : Int) := of_decide_eq_true (by first | (with_reducible assumption) | assumption)
         obtain ⟨ad129, e129, hx129_0, hx129_1, hx129_2⟩ := at_T53 HR0_3.out x12_1 p129 q129
         cases e129
         replace hx129_0 := (HB.out.cell (World.block_lt_of_cell? w _ hx129_0)).trans hx129_0
         replace hx129_1 := (HB.out.cell (World.block_lt_of_cell? w _ hx129_1)).trans hx129_1
         replace hx129_2 := (HB.out.cell (World.block_lt_of_cell? w _ hx129_2)).trans hx129_2
         replace p129 := eq_true p129
         replace q129 := eq_true q129
         go_wp2_with (first | ((with_reducible refine gate_dst (N := 6) rfl ?_); refine bx 6 #[.int .i64 0, .int .i64 0, .int .i64 0] 53 ?_; intro gb130 hg w17 hbox hb; have BK130 := uD (hbox); have GW130 := uD ((by rw [hg]; exact (uN (pb HB)) : w.heap.size ≤ gb130)); have GE130 := uD ((by rw [hg]; exact (uN (pb HB)) : w.heap.size ≤ gb130)); replace HB := uD (uO (pb HB) hb); have NB127_130 := uD ((by rw [hg]; exact Nat.ne_of_lt (blk_lt (pk BK127)) : gb127 ≠ gb130)); have NB130_127 := uD ((by rw [hg]; exact Nat.ne_of_gt (blk_lt (pk BK127)) : gb130 ≠ gb127)); replace BK127 := uD (blk_below (pk BK127) hb); clear hb hbox hg; have hnb18 := NB130_127.out; have hnc18 := NB127_130.out; obtain ⟨hcz19_0, hcz19_1, hcz19_2, hfz19_0, hfz19_1, hfz19_2⟩ := cz3 BK130))
         go_roundg k1
         case measure => have := HK1.out; omega
         case rel => exact ⟨(wrap64 (x12_1 + 1)), (by first | rfl | (simp; done) | (simp [*]; done)), H', ⟨by have := HK1.out; omega⟩, ⟨by exact ps BK127⟩, ⟨pb HB⟩⟩
       ·rw [if_neg c12] at H
        have c12b0 : decide (a1 ≤ ((rd_T53 l0_3 x12_1).f1)) = false := decide_eq_false c12
        clear c12
        have H' := uD H
        clear H
        have p129 : 0 ≤ (x12_1 : Int) := of_decide_eq_true (by first | (with_reducible assumption) | assumption)
        have q129 : x12_1 < (l0_3.length : Int) := of_decide_eq_true (by first | (with_reducible assumption) | assumption)
        obtain ⟨ad129, e129, hx129_0, hx129_1, hx129_2⟩ := at_T53 HR0_3.out x12_1 p129 q129
        cases e129
        replace hx129_0 := (HB.out.cell (World.block_lt_of_cell? w _ hx129_0)).trans hx129_0
        replace hx129_1 := (HB.out.cell (World.block_lt_of_cell? w _ hx129_1)).trans hx129_1
        replace hx129_2 := (HB.out.cell (World.block_lt_of_cell? w _ hx129_2)).trans hx129_2
        replace p129 := eq_true p129
        replace q129 := eq_true q129
        go_wp2_with (first | ((with_reducible refine gate_dst (N := 6) rfl ?_); refine bx 6 #[.int .i64 0, .int .i64 0, .int .i64 0] 53 ?_; intro gb130 hg w20 hbox hb; have BK130 := uD (hbox); have GW130 := uD ((by rw [hg]; exact (uN (pb HB)) : w.heap.size ≤ gb130)); have GE130 := uD ((by rw [hg]; exact (uN (pb HB)) : w.heap.size ≤ gb130)); replace HB := uD (uO (pb HB) hb); have NB127_130 := uD ((by rw [hg]; exact Nat.ne_of_lt (blk_lt (pk BK127)) : gb127 ≠ gb130)); have NB130_127 := uD ((by rw [hg]; exact Nat.ne_of_gt (blk_lt (pk BK127)) : gb130 ≠ gb127)); replace BK127 := uD (blk_below (pk BK127) hb); clear hb hbox hg; have hnb21 := NB130_127.out; have hnc21 := NB127_130.out; obtain ⟨hcz22_0, hcz22_1, hcz22_2, hfz22_0, hfz22_1, hfz22_2⟩ := cz3 BK130))
        go_roundg k1
        case measure => have := HK1.out; omega
        case rel => exact ⟨(wrap64 (x12_1 + 1)), (by first | rfl | (simp; done) | (simp [*]; done)), H', ⟨by have := HK1.out; omega⟩, ⟨by exact ps BK127⟩, ⟨pb HB⟩⟩
      ·rw [if_neg c11] at H
       exact absurd H (by simp)
     ·rw [if_neg c10] at H
      exact absurd H (by simp)
    ·rw [if_neg c9] at H
     have c9b0 : decide (x12_1 < (l0_3.length : Int)) = false := decide_eq_false c9
     clear c9
     obtain rfl := Option.some.inj H
     go_wp2
     go_ret
     exact ⟨by first | rfl | (simp [errW_none, errW_some] <;> rfl) | (simp [*, errW_none, errW_some] <;> rfl), pb HB⟩
 ·replace c4 := Bool.eq_false_iff.mpr c4
  subst c4
  have H1 : (some 0) = some r := by rw [if_neg (show ¬ (false = true) by decide)] at H; first | done | exact H
  clear H
  have H := H1
  clear H1
  obtain rfl := Option.some.inj H
  go_enter Try.func23, Try.ntmps23
  go_wp2_with (first | ((with_reducible refine gate_dst (N := 2) rfl ?_); refine bx 2 #[.int .i64 a0_0, .int .i64 a0_1, .bool a0_2, .slice A0_3 l0_3.length c0_3] 29 ?_; intro gb127 hg w23 hbox hb; have BK127 := uD (hbox); have GW127 := uD ((by rw [hg]; exact (uN (pb HB)) : w.heap.size ≤ gb127)); have GE127 := uD ((by rw [hg]; exact (uN (pb HB)) : w.heap.size ≤ gb127)); replace HB := uD (uO (pb HB) hb); clear hb hbox hg; obtain ⟨hcz24_0, hcz24_1, hcz24_2, hcz24_3, hfz24_0, hfz24_1, hfz24_2, hfz24_3⟩ := cz4 BK127) | ((with_reducible refine gate_callee (f := 18) rfl ?_); refine gl (some 8) Try.func18 #[.agg #[.int .i64 a0_0, .int .i64 a0_1, .bool a0_2, .slice A0_3 l0_3.length c0_3]] ?_; (with_reducible refine (impl_BeltOk.calls k a0_0 a0_1 a0_2 _ _ l0_3 false _ ?side1 ?side2 A3.out).mono ?_); (case side1 => exact pc (Kd.C_below HR0_3.out HB.out)); (case side2 => exact HC0_3.out); rintro e w25 ⟨rfl, hb⟩; refine ⟨_, rfl, ?_⟩; replace BK127 := uD (blk_below (pk BK127) hb); replace HB := uD (uO (pb HB) hb); (try clear hb); (try clear hb2); (try clear hk); (try clear hi)))
  go_ret
  exact ⟨by first | rfl | (simp [errW_none, errW_some] <;> rfl) | (simp [*, errW_none, errW_some] <;> rfl), pb HB⟩

/-! ### spec_l02Step: function 52 -/
def spec_l02Step.l0 : Nat → List (S53) → Int → Int → Int → Bool → List (S53) → Option (Int × Int × Bool × (List (S53)))
 | 0, _, _, _, _, _, _ => none
 | k + 1, x3, x4, x132000, x132001, x132002, x132003 => if x4 < (x3.length : Int) then (if x4 > 0 then (if 0 ≤ (wrap64 (x4 - 1)) then (if (wrap64 (x4 - 1)) < (x3.length : Int) then (if 0 ≤ x4 then (if ((rd_T53 x3 x4).f1) < (wrap64 ((wrap64 (((rd_T53 x3 (wrap64 (x4 - 1))).f1) - ((rd_T53 x3 (wrap64 (x4 - 1))).f2))) - x132001)) then (spec_l02Step.l0 k (x3.set (x4 : Int).toNat (⟨(rd_T53 x3 x4).f0, wrap64 (((rd_T53 x3 x4).f1) + 1), (rd_T53 x3 x4).f2⟩ : S53)) (wrap64 (x4 + 1)) x132000 x132001 x132002 x132003) else (spec_l02Step.l0 k x3 (wrap64 (x4 + 1)) x132000 x132001 x132002 x132003)) else (none)) else (none)) else (none)) else (if 0 ≤ x4 then (if ((rd_T53 x3 x4).f1) < x132000 then (spec_l02Step.l0 k (x3.set (x4 : Int).toNat (⟨(rd_T53 x3 x4).f0, wrap64 (((rd_T53 x3 x4).f1) + 1), (rd_T53 x3 x4).f2⟩ : S53)) (wrap64 (x4 + 1)) x132000 x132001 x132002 x132003) else (spec_l02Step.l0 k x3 (wrap64 (x4 + 1)) x132000 x132001 x132002 x132003)) else (none))) else (some (x132000, x132001, x132002, x3))
def spec_l02Step.f (k : Nat) (a0_0 : Int) (a0_1 : Int) (a0_2 : Bool) (l0_3 : List (S53)) : Option (Int × Int × Bool × (List (S53))) := (some (([] : List (S53)) : List (S53))).bind fun y133 => (if y133.length + l0_3.length < 5864062014805 then (spec_l02Step.l0 k (y133 ++ l0_3) 0 a0_0 a0_1 a0_2 l0_3) else (none))
theorem spec_l02Step.mono_l : ∀ k, (∀ y0 y1 y2 y3 y4 y5, LeO (spec_l02Step.l0 k y0 y1 y2 y3 y4 y5) (spec_l02Step.l0 (k + 1) y0 y1 y2 y3 y4 y5))
 | 0 => fun _ _ _ _ _ _ r h => by simp [spec_l02Step.l0] at h
 | k + 1 => by
  have ih0 := spec_l02Step.mono_l k
  ·intro y0 y1 y2 y3 y4 y5
   unfold spec_l02Step.l0
   repeat' first
   | (with_reducible exact ih0 _ _ _ _ _ _)
   | (with_reducible exact LeO.refl _)
   | (with_reducible exact LeO.none _)
   | (with_reducible refine LeO.ite ?_ ?_)
   | (with_reducible refine LeO.bind ?_ (fun _ => ?_))
   | exact ih0 _ _ _ _ _ _
   | exact LeO.none _
   | refine LeO.ite ?_ ?_
   | refine LeO.bind ?_ (fun _ => ?_)
theorem spec_l02Step.mono : ∀ a0 a1 a2 a3 k, LeO (spec_l02Step.f k a0 a1 a2 a3) (spec_l02Step.f (k + 1) a0 a1 a2 a3) := by
 intro a0 a1 a2 a3 k
 have ih0 := spec_l02Step.mono_l k
 unfold spec_l02Step.f
 repeat' first
   | (with_reducible exact ih0 _ _ _ _ _ _)
   | (with_reducible exact LeO.refl _)
   | (with_reducible exact LeO.none _)
   | (with_reducible refine LeO.ite ?_ ?_)
   | (with_reducible refine LeO.bind ?_ (fun _ => ?_))
   | exact ih0 _ _ _ _ _ _
   | exact LeO.none _
   | refine LeO.ite ?_ ?_
   | refine LeO.bind ?_ (fun _ => ?_)
set_option maxHeartbeats 8000000 in
set_option maxRecDepth 100000 in
theorem spec_l02Step.calls (k : Nat) (a0_0 : Int) (a0_1 : Int) (a0_2 : Bool) (A0_3 : Option Addr) (c0_3 : Nat) (l0_3 : List (S53)) (r1 : Int) (r2 : Int) (r3 : Bool) (r4 : List (S53)) (w : World) (hr0_3 : Kd.C k53 w A0_3 l0_3.length l0_3) (hc0_3 : l0_3.length ≤ c0_3) (h : spec_l02Step.f k a0_0 a0_1 a0_2 l0_3 = some (r1, r2, r3, r4)) :
  Calls Try.prog 52 #[.agg #[.int .i64 a0_0, .int .i64 a0_1, .bool a0_2, .slice A0_3 l0_3.length c0_3]] w fun e w' => ∃ v3_ : Value, e = .returned (.agg #[.int .i64 r1, .int .i64 r2, .bool r3, v3_]) ∧ Kd.R k53 53 w' w.heap.size (fun _ => True) v3_ r4 ∧ Below w.heap.size w w' := by
 have hu29 := Try.underlying29
 have HR0_3 := uD hr0_3
 have HC0_3 := uD hc0_3
 clear hr0_3 hc0_3
 have HB := uD (Below.refl w.heap.size w)
 have H : ((some (([] : List (S53)) : List (S53))).bind fun y133 => (if y133.length + l0_3.length < 5864062014805 then (spec_l02Step.l0 k (y133 ++ l0_3) 0 a0_0 a0_1 a0_2 l0_3) else (none))) = some (r1, r2, r3, r4) := h
 clear h
 obtain ⟨y133, hy133⟩ : ∃ y_ : List (S53), y_ = (([] : List (S53))) := ⟨_, rfl⟩
 replace H : (if y133.length + l0_3.length < 5864062014805 then (spec_l02Step.l0 k (y133 ++ l0_3) 0 a0_0 a0_1 a0_2 l0_3) else (none)) = some (r1, r2, r3, r4) := by first | (rw [hy133]; with_reducible exact H) | (have H2_ := (Option.bind_some _ _).symm.trans H; rw [hy133]; with_reducible exact H2_) | (have H2_ := (Option.bind_some _ _).symm.trans H; with_reducible exact H2_) | with_reducible exact H | (rw [hy133]; exact H) | exact H
 have Ny133 := uD hy133
 clear hy133
 by_cases c2 : y133.length + l0_3.length < 5864062014805
 ·rw [if_pos c2] at H
  have LMc2 := uD c2
  clear c2
  obtain ⟨y136, hy136⟩ : ∃ y_ : List (S53), y_ = (y133 ++ l0_3) := ⟨_, rfl⟩
  replace H : (spec_l02Step.l0 k y136 0 a0_0 a0_1 a0_2 l0_3) = some (r1, r2, r3, r4) := by first | (rw [hy136]; with_reducible exact H) | (have H2_ := (Option.bind_some _ _).symm.trans H; rw [hy136]; with_reducible exact H2_) | (have H2_ := (Option.bind_some _ _).symm.trans H; with_reducible exact H2_) | with_reducible exact H | (rw [hy136]; exact H) | exact H
  have Ny136 := uD hy136
  clear hy136
  have H' := uD H
  clear H
  go_enter Try.func52, Try.ntmps52
  go_wp2_with (first | ((with_reducible refine gate_dst (N := 1) rfl ?_); refine bx 1 #[.int .i64 a0_0, .int .i64 a0_1, .bool a0_2, .slice A0_3 l0_3.length c0_3] 29 ?_; intro gb131 hg w3 hbox hb; have BK131 := uD (hbox); have GW131 := uD ((by rw [hg]; exact (uN (pb HB)) : w.heap.size ≤ gb131)); have GE131 := uD ((by rw [hg]; exact (uN (pb HB)) : w.heap.size ≤ gb131)); replace HB := uD (uO (pb HB) hb); clear hb hbox hg) | ((with_reducible refine gate_dst (N := 2) rfl ?_); refine bx 2 #[.int .i64 0, .int .i64 0, .bool false, .slice none 0 0] 29 ?_; intro gb132 hg w4 hbox hb; have BK132 := uD (hbox); have GW132 := uD ((by rw [hg]; exact (uN (pb HB)) : w.heap.size ≤ gb132)); have GE132 := uD ((by rw [hg]; exact (uN (pb HB)) : w.heap.size ≤ gb132)); replace HB := uD (uO (pb HB) hb); have NB131_132 := uD ((by rw [hg]; exact Nat.ne_of_lt (blk_lt (pk BK131)) : gb131 ≠ gb132)); have NB132_131 := uD ((by rw [hg]; exact Nat.ne_of_gt (blk_lt (pk BK131)) : gb132 ≠ gb131)); replace BK131 := uD (blk_below (pk BK131) hb); clear hb hbox hg) | ((with_reducible refine gate_dst (N := 6) rfl ?_); refine Kd.R_lit k53 _ 53 ?hg (N := 6) ?hd (xs := ([] : List (S53))) (inner := []) (ok := fun _ => True) (okp := fun _ => True) ?hr ?hp (fun _ hk => hk) trivial (Below.refl _ _) (Nat.le_refl _) (by simp) ?_; (case hd => rfl); (case hg => rfl); (case hr => first | (go_simp; done) | (go_simp; rfl)); (case hp => exact (Reps.none _ _)); intro v134 w5 ho6 hb hg_ hnew_; clear hg_ hnew_; (first | rw [← Ny133.out] at ho6 | (simp only [Int.reduceToNat] at ho6; rw [← Ny133.out] at ho6)); have HO135 := uD (Kd.R_lower ho6 (uN (pb HB))); replace BK131 := uD (blk_below (pk BK131) hb); replace BK132 := uD (blk_below (pk BK132) hb); replace HB := uD (uO (pb HB) hb); clear hb ho6; have hnb7 := NB131_132.out; have hnc7 := NB132_131.out; obtain ⟨hcz8_0, hcz8_1, hcz8_2, hcz8_3, hfz8_0, hfz8_1, hfz8_2, hfz8_3⟩ := cz4 BK131) | ((with_reducible refine gate_builtin (b := .append) (xs := #[.tmp 6, .tmp 8]) rfl ?_); at_builtin; refine Kd.R_append_rows k53 (w0 := w) w.heap.size rfl (.tmp 6) (.tmp 8) 27 53 (.agg #[(.int .i64 0), (.int .i64 0), (.int .i64 0)]) 24 rfl Try.underlying27 info53 rfl (by decide) (by omega) v134 y133 l0_3 _ _ _ (fun _ => True) (fun _ => False) rfl rfl ?aO ?aR (fun _ _ h => h) (fun _ h => h.elim) ?aF ?aB ?aS ?aL ?_; (case aR => exact pc (Kd.C_below HR0_3.out HB.out)); (case aB => exact (pb HB)); (case aF => exact (fun _ _ => trivial)); (case aO => exact (pr HO135)); (case aS => exact (uN (pb HB))); (case aL => have := LMc2.out; omega); intro v137 w9 ho hb hg hat; rw [← Ny136.out] at ho; replace BK131 := uD (blk_grown (pk BK131) hg (Kd.R_ne HO135.out BK131.out (by decide))); replace BK132 := uD (blk_grown (pk BK132) hg (Kd.R_ne HO135.out BK132.out (by decide))); replace HB := uD (hb); have HO138 := uD (ho); clear HO135; clear ho hb hg hat))
  repeat (go_quiet (first | ((with_reducible refine gate_dst (N := 1) rfl ?_); refine bx 1 #[.int .i64 a0_0, .int .i64 a0_1, .bool a0_2, .slice A0_3 l0_3.length c0_3] 29 ?_; intro gb131 hg w3 hbox hb; have BK131 := uD (hbox); have GW131 := uD ((by rw [hg]; exact (uN (pb HB)) : w.heap.size ≤ gb131)); have GE131 := uD ((by rw [hg]; exact (uN (pb HB)) : w.heap.size ≤ gb131)); replace HB := uD (uO (pb HB) hb); clear hb hbox hg) | ((with_reducible refine gate_dst (N := 2) rfl ?_); refine bx 2 #[.int .i64 0, .int .i64 0, .bool false, .slice none 0 0] 29 ?_; intro gb132 hg w4 hbox hb; have BK132 := uD (hbox); have GW132 := uD ((by rw [hg]; exact (uN (pb HB)) : w.heap.size ≤ gb132)); have GE132 := uD ((by rw [hg]; exact (uN (pb HB)) : w.heap.size ≤ gb132)); replace HB := uD (uO (pb HB) hb); have NB131_132 := uD ((by rw [hg]; exact Nat.ne_of_lt (blk_lt (pk BK131)) : gb131 ≠ gb132)); have NB132_131 := uD ((by rw [hg]; exact Nat.ne_of_gt (blk_lt (pk BK131)) : gb132 ≠ gb131)); replace BK131 := uD (blk_below (pk BK131) hb); clear hb hbox hg) | ((with_reducible refine gate_dst (N := 6) rfl ?_); refine Kd.R_lit k53 _ 53 ?hg (N := 6) ?hd (xs := ([] : List (S53))) (inner := []) (ok := fun _ => True) (okp := fun _ => True) ?hr ?hp (fun _ hk => hk) trivial (Below.refl _ _) (Nat.le_refl _) (by simp) ?_; (case hd => rfl); (case hg => rfl); (case hr => first | (go_simp; done) | (go_simp; rfl)); (case hp => exact (Reps.none _ _)); intro v134 w5 ho6 hb hg_ hnew_; clear hg_ hnew_; (first | rw [← Ny133.out] at ho6 | (simp only [Int.reduceToNat] at ho6; rw [← Ny133.out] at ho6)); have HO135 := uD (Kd.R_lower ho6 (uN (pb HB))); replace BK131 := uD (blk_below (pk BK131) hb); replace BK132 := uD (blk_below (pk BK132) hb); replace HB := uD (uO (pb HB) hb); clear hb ho6; have hnb7 := NB131_132.out; have hnc7 := NB132_131.out; obtain ⟨hcz8_0, hcz8_1, hcz8_2, hcz8_3, hfz8_0, hfz8_1, hfz8_2, hfz8_3⟩ := cz4 BK131) | ((with_reducible refine gate_builtin (b := .append) (xs := #[.tmp 6, .tmp 8]) rfl ?_); at_builtin; refine Kd.R_append_rows k53 (w0 := w) w.heap.size rfl (.tmp 6) (.tmp 8) 27 53 (.agg #[(.int .i64 0), (.int .i64 0), (.int .i64 0)]) 24 rfl Try.underlying27 info53 rfl (by decide) (by omega) v134 y133 l0_3 _ _ _ (fun _ => True) (fun _ => False) rfl rfl ?aO ?aR (fun _ _ h => h) (fun _ h => h.elim) ?aF ?aB ?aS ?aL ?_; (case aR => exact pc (Kd.C_below HR0_3.out HB.out)); (case aB => exact (pb HB)); (case aF => exact (fun _ _ => trivial)); (case aO => exact (pr HO135)); (case aS => exact (uN (pb HB))); (case aL => have := LMc2.out; omega); intro v137 w9 ho hb hg hat; rw [← Ny136.out] at ho; replace BK131 := uD (blk_grown (pk BK131) hg (Kd.R_ne HO135.out BK131.out (by decide))); replace BK132 := uD (blk_grown (pk BK132) hg (Kd.R_ne HO135.out BK132.out (by decide))); replace HB := uD (hb); have HO138 := uD (ho); clear HO135; clear ho hb hg hat)); try go_wp2_with (first | ((with_reducible refine gate_dst (N := 1) rfl ?_); refine bx 1 #[.int .i64 a0_0, .int .i64 a0_1, .bool a0_2, .slice A0_3 l0_3.length c0_3] 29 ?_; intro gb131 hg w3 hbox hb; have BK131 := uD (hbox); have GW131 := uD ((by rw [hg]; exact (uN (pb HB)) : w.heap.size ≤ gb131)); have GE131 := uD ((by rw [hg]; exact (uN (pb HB)) : w.heap.size ≤ gb131)); replace HB := uD (uO (pb HB) hb); clear hb hbox hg) | ((with_reducible refine gate_dst (N := 2) rfl ?_); refine bx 2 #[.int .i64 0, .int .i64 0, .bool false, .slice none 0 0] 29 ?_; intro gb132 hg w4 hbox hb; have BK132 := uD (hbox); have GW132 := uD ((by rw [hg]; exact (uN (pb HB)) : w.heap.size ≤ gb132)); have GE132 := uD ((by rw [hg]; exact (uN (pb HB)) : w.heap.size ≤ gb132)); replace HB := uD (uO (pb HB) hb); have NB131_132 := uD ((by rw [hg]; exact Nat.ne_of_lt (blk_lt (pk BK131)) : gb131 ≠ gb132)); have NB132_131 := uD ((by rw [hg]; exact Nat.ne_of_gt (blk_lt (pk BK131)) : gb132 ≠ gb131)); replace BK131 := uD (blk_below (pk BK131) hb); clear hb hbox hg) | ((with_reducible refine gate_dst (N := 6) rfl ?_); refine Kd.R_lit k53 _ 53 ?hg (N := 6) ?hd (xs := ([] : List (S53))) (inner := []) (ok := fun _ => True) (okp := fun _ => True) ?hr ?hp (fun _ hk => hk) trivial (Below.refl _ _) (Nat.le_refl _) (by simp) ?_; (case hd => rfl); (case hg => rfl); (case hr => first | (go_simp; done) | (go_simp; rfl)); (case hp => exact (Reps.none _ _)); intro v134 w5 ho6 hb hg_ hnew_; clear hg_ hnew_; (first | rw [← Ny133.out] at ho6 | (simp only [Int.reduceToNat] at ho6; rw [← Ny133.out] at ho6)); have HO135 := uD (Kd.R_lower ho6 (uN (pb HB))); replace BK131 := uD (blk_below (pk BK131) hb); replace BK132 := uD (blk_below (pk BK132) hb); replace HB := uD (uO (pb HB) hb); clear hb ho6; have hnb7 := NB131_132.out; have hnc7 := NB132_131.out; obtain ⟨hcz8_0, hcz8_1, hcz8_2, hcz8_3, hfz8_0, hfz8_1, hfz8_2, hfz8_3⟩ := cz4 BK131) | ((with_reducible refine gate_builtin (b := .append) (xs := #[.tmp 6, .tmp 8]) rfl ?_); at_builtin; refine Kd.R_append_rows k53 (w0 := w) w.heap.size rfl (.tmp 6) (.tmp 8) 27 53 (.agg #[(.int .i64 0), (.int .i64 0), (.int .i64 0)]) 24 rfl Try.underlying27 info53 rfl (by decide) (by omega) v134 y133 l0_3 _ _ _ (fun _ => True) (fun _ => False) rfl rfl ?aO ?aR (fun _ _ h => h) (fun _ h => h.elim) ?aF ?aB ?aS ?aL ?_; (case aR => exact pc (Kd.C_below HR0_3.out HB.out)); (case aB => exact (pb HB)); (case aF => exact (fun _ _ => trivial)); (case aO => exact (pr HO135)); (case aS => exact (uN (pb HB))); (case aL => have := LMc2.out; omega); intro v137 w9 ho hb hg hat; rw [← Ny136.out] at ho; replace BK131 := uD (blk_grown (pk BK131) hg (Kd.R_ne HO135.out BK131.out (by decide))); replace BK132 := uD (blk_grown (pk BK132) hg (Kd.R_ne HO135.out BK132.out (by decide))); replace HB := uD (hb); have HO138 := uD (ho); clear HO135; clear ho hb hg hat)))
  go_loopg [4] k (fun kq v4 w' => ∃ (x3_1 : List (S53)) (x4_1 : Int), v4 = .int .i64 x4_1 ∧ Aside0 (spec_l02Step.l0 kq x3_1 x4_1 a0_0 a0_1 a0_2 l0_3 = some (r1, r2, r3, r4)) ∧ Aside0 (kq ≤ k) ∧ Aside0 (Kd.R k53 53 w' w.heap.size (fun _ => True) v137 x3_1) ∧ Aside0 (w'.heap[gb131]? = some (.cells #[.int .i64 a0_0, .int .i64 a0_1, .bool a0_2, (.slice A0_3 l0_3.length c0_3)] 29 (0, 0))) ∧ Aside0 (w'.heap[gb132]? = some (.cells #[.int .i64 0, .int .i64 0, .bool false, (.slice none 0 0)] 29 (0, 0))) ∧ Aside0 (Below w.heap.size w w'))
  case atStart => exact ⟨(y136), (0), (by first | rfl | (simp; done) | (simp [*]; done)), H', ⟨Nat.le_refl _⟩, ⟨by (with_reducible repeat (first | apply uU | apply uS | apply uT)); exact HO138.out⟩, ⟨by (with_reducible repeat first|apply uH|apply uJ|apply uG); exact BK131.out⟩, ⟨by (with_reducible repeat first|apply uH|apply uJ|apply uG); exact BK132.out⟩, ⟨pb HB⟩⟩
  case round =>
   clear H'
   try clear c2
   try clear p2
   try clear c5
   try clear c7
   try clear hcz8_0
   try clear hcz8_1
   try clear hcz8_2
   try clear hcz8_3
   try clear hfz8_0
   try clear hfz8_1
   try clear hfz8_2
   try clear hfz8_3
   obtain ⟨x3_1, x4_1, rfl, HA, HK1, HO_3, BK131, BK132, HB⟩ := hrel
   cases gk with
   | zero => exact absurd HA.out (by simp [spec_l02Step.l0])
   | succ k1 =>
    have H := HA.out
    clear HA
    simp only [spec_l02Step.l0] at H
    by_cases c10 : x4_1 < (x3_1.length : Int)
    ·rw [if_pos c10] at H
     have c10b0 : decide (x4_1 < (x3_1.length : Int)) = true := decide_eq_true c10
     clear c10
     by_cases c11 : x4_1 > 0
     ·rw [if_pos c11] at H
      have c11b0 : decide (0 < x4_1) = true := decide_eq_true c11
      clear c11
      obtain ⟨ji12, hji12⟩ : ∃ j_ : Int, (wrap64 (x4_1 - 1)) = j_ := ⟨_, rfl⟩
      replace H : (if 0 ≤ (ji12) then (if (ji12) < (x3_1.length : Int) then (if 0 ≤ x4_1 then (if ((rd_T53 x3_1 x4_1).f1) < (wrap64 ((wrap64 (((rd_T53 x3_1 (ji12)).f1) - ((rd_T53 x3_1 (ji12)).f2))) - a0_1)) then (spec_l02Step.l0 k1 (x3_1.set (x4_1 : Int).toNat (⟨(rd_T53 x3_1 x4_1).f0, wrap64 (((rd_T53 x3_1 x4_1).f1) + 1), (rd_T53 x3_1 x4_1).f2⟩ : S53)) (wrap64 (x4_1 + 1)) a0_0 a0_1 a0_2 l0_3) else (spec_l02Step.l0 k1 x3_1 (wrap64 (x4_1 + 1)) a0_0 a0_1 a0_2 l0_3)) else (none)) else (none)) else (none)) = some (r1, r2, r3, r4) := by first | (rw [hji12] at H; exact H) | (simp only [hji12] at H ⊢; exact H)
      have hji12w : (IntKind.i64.wrap (x4_1 - 1)) = ji12 := (uZ _).trans hji12
      by_cases c13 : 0 ≤ (ji12)
      ·rw [if_pos c13] at H
       have c13b0 : decide (0 ≤ (ji12)) = true := decide_eq_true c13
       clear c13
       by_cases c14 : (ji12) < (x3_1.length : Int)
       ·rw [if_pos c14] at H
        have c14b0 : decide ((ji12) < (x3_1.length : Int)) = true := decide_eq_true c14
        clear c14
        by_cases c15 : 0 ≤ x4_1
        ·rw [if_pos c15] at H
         have c15b0 : decide (0 ≤ x4_1) = true := decide_eq_true c15
         clear c15
         by_cases c16 : ((rd_T53 x3_1 x4_1).f1) < (wrap64 ((wrap64 (((rd_T53 x3_1 (ji12)).f1) - ((rd_T53 x3_1 (ji12)).f2))) - a0_1))
         ·rw [if_pos c16] at H
          have c16b0 : decide (((rd_T53 x3_1 x4_1).f1) < (wrap64 ((wrap64 (((rd_T53 x3_1 (ji12)).f1) - ((rd_T53 x3_1 (ji12)).f2))) - a0_1))) = true := decide_eq_true c16
          clear c16
          obtain ⟨y143, hy143⟩ : ∃ y_ : List (S53), y_ = (x3_1.set (x4_1 : Int).toNat (⟨(rd_T53 x3_1 x4_1).f0, wrap64 (((rd_T53 x3_1 x4_1).f1) + 1), (rd_T53 x3_1 x4_1).f2⟩ : S53)) := ⟨_, rfl⟩
          replace H : (spec_l02Step.l0 k1 y143 (wrap64 (x4_1 + 1)) a0_0 a0_1 a0_2 l0_3) = some (r1, r2, r3, r4) := by first | (rw [hy143]; with_reducible exact H) | (have H2_ := (Option.bind_some _ _).symm.trans H; rw [hy143]; with_reducible exact H2_) | (have H2_ := (Option.bind_some _ _).symm.trans H; with_reducible exact H2_) | with_reducible exact H | (rw [hy143]; exact H) | exact H
          have Ny143 := uD hy143
          clear hy143
          have H' := uD H
          clear H
          obtain ⟨Ao18, co18, eo18⟩ := Kd.R_slice HO_3.out
          subst eo18
          have hnb19 := NB131_132.out
          have hnc19 := NB132_131.out
          obtain ⟨hcz20_0, hcz20_1, hcz20_2, hcz20_3, hfz20_0, hfz20_1, hfz20_2, hfz20_3⟩ := cz4 BK131
          have p139 : 0 ≤ ((ji12) : Int) := of_decide_eq_true (by first | (with_reducible assumption) | assumption)
          have q139 : (ji12) < (x3_1.length : Int) := of_decide_eq_true (by first | (with_reducible assumption) | assumption)
          obtain ⟨ad139, e139, hx139_0, hx139_1, hx139_2⟩ := at_T53 (Kd.R_reads' HO_3.out).2.2 (ji12) p139 q139
          cases e139
          replace p139 := eq_true p139
          replace q139 := eq_true q139
          have p140 : 0 ≤ ((ji12) : Int) := of_decide_eq_true (by first | (with_reducible assumption) | assumption)
          have q140 : (ji12) < (x3_1.length : Int) := of_decide_eq_true (by first | (with_reducible assumption) | assumption)
          obtain ⟨ad140, e140, hx140_0, hx140_1, hx140_2⟩ := at_T53 (Kd.R_reads' HO_3.out).2.2 (ji12) p140 q140
          obtain rfl : ad139 = ad140 := (by injection e140)
          replace p140 := eq_true p140
          replace q140 := eq_true q140
          have p141 : 0 ≤ (x4_1 : Int) := of_decide_eq_true (by first | (with_reducible assumption) | assumption)
          have q141 : x4_1 < (x3_1.length : Int) := of_decide_eq_true (by first | (with_reducible assumption) | assumption)
          obtain ⟨ad141, e141, hx141_0, hx141_1, hx141_2⟩ := at_T53 (Kd.R_reads' HO_3.out).2.2 x4_1 p141 q141
          obtain rfl : ad139 = ad141 := (by injection e141)
          replace p141 := eq_true p141
          replace q141 := eq_true q141
          have p142 : 0 ≤ (x4_1 : Int) := of_decide_eq_true (by first | (with_reducible assumption) | assumption)
          have q142 : x4_1 < (x3_1.length : Int) := of_decide_eq_true (by first | (with_reducible assumption) | assumption)
          obtain ⟨ad142, e142, hx142_0, hx142_1, hx142_2⟩ := at_T53 (Kd.R_reads' HO_3.out).2.2 x4_1 p142 q142
          obtain rfl : ad139 = ad142 := (by injection e142)
          replace p142 := eq_true p142
          replace q142 := eq_true q142
          have p17 : 0 ≤ (x4_1 : Int) := of_decide_eq_true (by first | (with_reducible assumption) | assumption)
          have q17 : (x4_1 : Int) < ((x3_1.length : Int) : Int) := of_decide_eq_true (by first | (with_reducible assumption) | assumption)
          obtain ⟨go17, co17, eo17, gb17, gl17, cl17, HG17⟩ := Kd.R_form HO_3.out (by omega)
          (first | cases eo17 | (injection eo17 with ea_ en_ ec_; (first | subst ea_ | (injection ea_ with ea_; subst ea_)); subst ec_; clear en_))
          have GB17 := uD gb17
          have GG17 := uD HG17
          clear gb17 gl17 HG17
          (first | simp only [add_plain] at hx139_0 | skip)
          (first | simp only [add_plain] at hx139_1 | skip)
          (first | simp only [add_plain] at hx139_2 | skip)
          (first | simp only [add_plain] at hx140_0 | skip)
          (first | simp only [add_plain] at hx140_1 | skip)
          (first | simp only [add_plain] at hx140_2 | skip)
          (first | simp only [add_plain] at hx141_0 | skip)
          (first | simp only [add_plain] at hx141_1 | skip)
          (first | simp only [add_plain] at hx141_2 | skip)
          (first | simp only [add_plain] at hx142_0 | skip)
          (first | simp only [add_plain] at hx142_1 | skip)
          (first | simp only [add_plain] at hx142_2 | skip)
          obtain ⟨ce17, hcl17, hM17, hcc17, hfr17⟩ := Kd.R_elem HO_3.out z53 (x4_1 : Int) p17 q17
          obtain rfl := k53_openM hM17
          have hx17_0 : wr.cell? ⟨go17, (x4_1 : Int).toNat * 3, none⟩ = some (.int .i64 ((rd_T53 x3_1 x4_1).f0)) := hcc17 0 _ rfl
          have hx17_1 : wr.cell? ⟨go17, (x4_1 : Int).toNat * 3 + 1, none⟩ = some (.int .i64 ((rd_T53 x3_1 x4_1).f1)) := hcc17 1 _ rfl
          have hx17_2 : wr.cell? ⟨go17, (x4_1 : Int).toNat * 3 + 2, none⟩ = some (.int .i64 ((rd_T53 x3_1 x4_1).f2)) := hcc17 2 _ rfl
          have hf17_0 : wr.frozen? ⟨go17, (x4_1 : Int).toNat * 3, none⟩ = false := hfr17 0
          have hf17_1 : wr.frozen? ⟨go17, (x4_1 : Int).toNat * 3 + 1, none⟩ = false := hfr17 1
          have hf17_2 : wr.frozen? ⟨go17, (x4_1 : Int).toNat * 3 + 2, none⟩ = false := hfr17 2
          clear hcl17 hcc17 hfr17 hM17
          replace p17 := eq_true p17
          replace q17 := eq_true q17
          have HX21 := uD (show Kd.R k53 53 wr w.heap.size (fun _ => True) (.slice (some ⟨go17, 0, none⟩) x3_1.length co18) x3_1 from (pr HO_3))
          obtain ⟨ce21, hcl21, hM21, hcc21, hfr21⟩ := Kd.R_elem HX21.out z53 (x4_1 : Int) (of_decide_eq_true (by first | (with_reducible assumption) | assumption)) (by have h_ : (x4_1 : Int) < ((x3_1.length : Int) : Int) := of_decide_eq_true (by first | (with_reducible assumption) | assumption); first | exact h_ | (have e_ := (Kd.R_reads' HO_3.out).1; omega) | simpa using h_)
          obtain rfl := k53_openM hM21
          have HP21 := Kd.R_seg HX21.out (x4_1 : Int) (of_decide_eq_true (by first | (with_reducible assumption) | assumption)) (by have h_ : (x4_1 : Int) < ((x3_1.length : Int) : Int) := of_decide_eq_true (by first | (with_reducible assumption) | assumption); first | exact h_ | (have e_ := (Kd.R_reads' HO_3.out).1; omega) | simpa using h_) (seg := [.int .i64 (wrap64 (((rd_T53 x3_1 x4_1).f1) + 1))]) (j := 1) hcl21 hcc21 (show 2 ≤ 3 from by decide) (x' := (⟨(rd_T53 x3_1 x4_1).f0, wrap64 (((rd_T53 x3_1 x4_1).f1) + 1), (rd_T53 x3_1 x4_1).f2⟩ : S53)) (k53_mkM _ _ _ (⟨(rd_T53 x3_1 x4_1).f0, wrap64 (((rd_T53 x3_1 x4_1).f1) + 1), (rd_T53 x3_1 x4_1).f2⟩ : S53) ) (fun _ hk => hk)
          have hx21_1 := hcc21 1 _ rfl
          (try simp only [show (k53).sz = 3 from rfl, Nat.mul_one, Nat.add_zero] at hx21_1)
          have hf21_1 := hfr21 1
          (try simp only [show (k53).sz = 3 from rfl, Nat.mul_one, Nat.add_zero] at hf21_1)
          clear hcl21 hcc21 hfr21 hM21
          go_wp2_with (first | ((with_reducible refine gate_store (t := 3) (p := 52) rfl ?_); (try (rw [drewN_self wr]; generalize hq_ : World.drewN wr _ = wr; have n0_ := uD (Kd.R_at hq_ HO_3.out); have n1_ := uD (blk_at hq_ BK131.out); have n2_ := uD (blk_at hq_ BK132.out); have n3_ := uD (below_at hq_ HB.out); clear hq_ HO_3 BK131 BK132 HB; have HO_3 := n0_; have BK131 := n1_; have BK132 := n2_; have HB := n3_; clear n0_ n1_ n2_ n3_; (try (have HX21 := uD (show Kd.R k53 53 wr w.heap.size (fun _ => True) (.slice (some ⟨go17, 0, none⟩) x3_1.length co18) x3_1 from (pr HO_3)))); (try (obtain ⟨ce21, hcl21, hM21, hcc21, hfr21⟩ := Kd.R_elem HX21.out z53 (x4_1 : Int) (of_decide_eq_true (by first | (with_reducible assumption) | assumption)) (by have h_ : (x4_1 : Int) < ((x3_1.length : Int) : Int) := of_decide_eq_true (by first | (with_reducible assumption) | assumption); first | exact h_ | (have e_ := (Kd.R_reads' HO_3.out).1; omega) | simpa using h_))); (try (obtain rfl := k53_openM hM21)); (try (have HP21 := Kd.R_seg HX21.out (x4_1 : Int) (of_decide_eq_true (by first | (with_reducible assumption) | assumption)) (by have h_ : (x4_1 : Int) < ((x3_1.length : Int) : Int) := of_decide_eq_true (by first | (with_reducible assumption) | assumption); first | exact h_ | (have e_ := (Kd.R_reads' HO_3.out).1; omega) | simpa using h_) (seg := [.int .i64 (wrap64 (((rd_T53 x3_1 x4_1).f1) + 1))]) (j := 1) hcl21 hcc21 (show 2 ≤ 3 from by decide) (x' := (⟨(rd_T53 x3_1 x4_1).f0, wrap64 (((rd_T53 x3_1 x4_1).f1) + 1), (rd_T53 x3_1 x4_1).f2⟩ : S53)) (k53_mkM _ _ _ (⟨(rd_T53 x3_1 x4_1).f0, wrap64 (((rd_T53 x3_1 x4_1).f1) + 1), (rd_T53 x3_1 x4_1).f2⟩ : S53) ) (fun _ hk => hk))); (try (have hx21_1 := hcc21 1 _ rfl)); (try (try simp only [show (k53).sz = 3 from rfl, Nat.mul_one, Nat.add_zero] at hx21_1)); (try (have hf21_1 := hfr21 1)); (try (try simp only [show (k53).sz = 3 from rfl, Nat.mul_one, Nat.add_zero] at hf21_1)); (try (clear hcl21 hcc21 hfr21 hM21)))); refine store_event (t := 3) (p := 52) (v := ?vo_w22) (w1 := (wr.setCell ⟨go17, (x4_1 : Int).toNat * 3 + 1, none⟩ (.int .i64 (wrap64 (((rd_T53 x3_1 x4_1).f1) + 1))))) ?hg ?ho ?hn ?hr ?_; (case ho => rfl); (case hg => rfl); (case hn => rfl); (case hr => first | (go_simp; done) | (go_simp; rfl)); intro w22 hw; have hg : wr.grownBy w22 (some go17) := (by rw [hw]; exact HP21.2); have hp_ : Kd.R k53 53 w22 w.heap.size (fun _ => True) (.slice (some ⟨go17, 0, none⟩) x3_1.length co18) y143 := (by rw [hw, Ny143.out]; exact HP21.1); clear HP21; replace BK131 := uD (blk_grown (pk BK131) hg (Kd.R_ne HO_3.out BK131.out (by decide))); replace BK132 := uD (blk_grown (pk BK132) hg (Kd.R_ne HO_3.out BK132.out (by decide))); replace HO_3 := uD (hp_); replace HB := uD ((by rw [hw]; exact uM (HB.out) GB17.out : Below w.heap.size w w22)); clear hg hw hp_))
          repeat (go_quiet (first | ((with_reducible refine gate_store (t := 3) (p := 52) rfl ?_); (try (rw [drewN_self wr]; generalize hq_ : World.drewN wr _ = wr; have n0_ := uD (Kd.R_at hq_ HO_3.out); have n1_ := uD (blk_at hq_ BK131.out); have n2_ := uD (blk_at hq_ BK132.out); have n3_ := uD (below_at hq_ HB.out); clear hq_ HO_3 BK131 BK132 HB; have HO_3 := n0_; have BK131 := n1_; have BK132 := n2_; have HB := n3_; clear n0_ n1_ n2_ n3_; (try (have HX21 := uD (show Kd.R k53 53 wr w.heap.size (fun _ => True) (.slice (some ⟨go17, 0, none⟩) x3_1.length co18) x3_1 from (pr HO_3)))); (try (obtain ⟨ce21, hcl21, hM21, hcc21, hfr21⟩ := Kd.R_elem HX21.out z53 (x4_1 : Int) (of_decide_eq_true (by first | (with_reducible assumption) | assumption)) (by have h_ : (x4_1 : Int) < ((x3_1.length : Int) : Int) := of_decide_eq_true (by first | (with_reducible assumption) | assumption); first | exact h_ | (have e_ := (Kd.R_reads' HO_3.out).1; omega) | simpa using h_))); (try (obtain rfl := k53_openM hM21)); (try (have HP21 := Kd.R_seg HX21.out (x4_1 : Int) (of_decide_eq_true (by first | (with_reducible assumption) | assumption)) (by have h_ : (x4_1 : Int) < ((x3_1.length : Int) : Int) := of_decide_eq_true (by first | (with_reducible assumption) | assumption); first | exact h_ | (have e_ := (Kd.R_reads' HO_3.out).1; omega) | simpa using h_) (seg := [.int .i64 (wrap64 (((rd_T53 x3_1 x4_1).f1) + 1))]) (j := 1) hcl21 hcc21 (show 2 ≤ 3 from by decide) (x' := (⟨(rd_T53 x3_1 x4_1).f0, wrap64 (((rd_T53 x3_1 x4_1).f1) + 1), (rd_T53 x3_1 x4_1).f2⟩ : S53)) (k53_mkM _ _ _ (⟨(rd_T53 x3_1 x4_1).f0, wrap64 (((rd_T53 x3_1 x4_1).f1) + 1), (rd_T53 x3_1 x4_1).f2⟩ : S53) ) (fun _ hk => hk))); (try (have hx21_1 := hcc21 1 _ rfl)); (try (try simp only [show (k53).sz = 3 from rfl, Nat.mul_one, Nat.add_zero] at hx21_1)); (try (have hf21_1 := hfr21 1)); (try (try simp only [show (k53).sz = 3 from rfl, Nat.mul_one, Nat.add_zero] at hf21_1)); (try (clear hcl21 hcc21 hfr21 hM21)))); refine store_event (t := 3) (p := 52) (v := ?vo_w22) (w1 := (wr.setCell ⟨go17, (x4_1 : Int).toNat * 3 + 1, none⟩ (.int .i64 (wrap64 (((rd_T53 x3_1 x4_1).f1) + 1))))) ?hg ?ho ?hn ?hr ?_; (case ho => rfl); (case hg => rfl); (case hn => rfl); (case hr => first | (go_simp; done) | (go_simp; rfl)); intro w22 hw; have hg : wr.grownBy w22 (some go17) := (by rw [hw]; exact HP21.2); have hp_ : Kd.R k53 53 w22 w.heap.size (fun _ => True) (.slice (some ⟨go17, 0, none⟩) x3_1.length co18) y143 := (by rw [hw, Ny143.out]; exact HP21.1); clear HP21; replace BK131 := uD (blk_grown (pk BK131) hg (Kd.R_ne HO_3.out BK131.out (by decide))); replace BK132 := uD (blk_grown (pk BK132) hg (Kd.R_ne HO_3.out BK132.out (by decide))); replace HO_3 := uD (hp_); replace HB := uD ((by rw [hw]; exact uM (HB.out) GB17.out : Below w.heap.size w w22)); clear hg hw hp_)); try go_wp2_with (first | ((with_reducible refine gate_store (t := 3) (p := 52) rfl ?_); (try (rw [drewN_self wr]; generalize hq_ : World.drewN wr _ = wr; have n0_ := uD (Kd.R_at hq_ HO_3.out); have n1_ := uD (blk_at hq_ BK131.out); have n2_ := uD (blk_at hq_ BK132.out); have n3_ := uD (below_at hq_ HB.out); clear hq_ HO_3 BK131 BK132 HB; have HO_3 := n0_; have BK131 := n1_; have BK132 := n2_; have HB := n3_; clear n0_ n1_ n2_ n3_; (try (have HX21 := uD (show Kd.R k53 53 wr w.heap.size (fun _ => True) (.slice (some ⟨go17, 0, none⟩) x3_1.length co18) x3_1 from (pr HO_3)))); (try (obtain ⟨ce21, hcl21, hM21, hcc21, hfr21⟩ := Kd.R_elem HX21.out z53 (x4_1 : Int) (of_decide_eq_true (by first | (with_reducible assumption) | assumption)) (by have h_ : (x4_1 : Int) < ((x3_1.length : Int) : Int) := of_decide_eq_true (by first | (with_reducible assumption) | assumption); first | exact h_ | (have e_ := (Kd.R_reads' HO_3.out).1; omega) | simpa using h_))); (try (obtain rfl := k53_openM hM21)); (try (have HP21 := Kd.R_seg HX21.out (x4_1 : Int) (of_decide_eq_true (by first | (with_reducible assumption) | assumption)) (by have h_ : (x4_1 : Int) < ((x3_1.length : Int) : Int) := of_decide_eq_true (by first | (with_reducible assumption) | assumption); first | exact h_ | (have e_ := (Kd.R_reads' HO_3.out).1; omega) | simpa using h_) (seg := [.int .i64 (wrap64 (((rd_T53 x3_1 x4_1).f1) + 1))]) (j := 1) hcl21 hcc21 (show 2 ≤ 3 from by decide) (x' := (⟨(rd_T53 x3_1 x4_1).f0, wrap64 (((rd_T53 x3_1 x4_1).f1) + 1), (rd_T53 x3_1 x4_1).f2⟩ : S53)) (k53_mkM _ _ _ (⟨(rd_T53 x3_1 x4_1).f0, wrap64 (((rd_T53 x3_1 x4_1).f1) + 1), (rd_T53 x3_1 x4_1).f2⟩ : S53) ) (fun _ hk => hk))); (try (have hx21_1 := hcc21 1 _ rfl)); (try (try simp only [show (k53).sz = 3 from rfl, Nat.mul_one, Nat.add_zero] at hx21_1)); (try (have hf21_1 := hfr21 1)); (try (try simp only [show (k53).sz = 3 from rfl, Nat.mul_one, Nat.add_zero] at hf21_1)); (try (clear hcl21 hcc21 hfr21 hM21)))); refine store_event (t := 3) (p := 52) (v := ?vo_w22) (w1 := (wr.setCell ⟨go17, (x4_1 : Int).toNat * 3 + 1, none⟩ (.int .i64 (wrap64 (((rd_T53 x3_1 x4_1).f1) + 1))))) ?hg ?ho ?hn ?hr ?_; (case ho => rfl); (case hg => rfl); (case hn => rfl); (case hr => first | (go_simp; done) | (go_simp; rfl)); intro w22 hw; have hg : wr.grownBy w22 (some go17) := (by rw [hw]; exact HP21.2); have hp_ : Kd.R k53 53 w22 w.heap.size (fun _ => True) (.slice (some ⟨go17, 0, none⟩) x3_1.length co18) y143 := (by rw [hw, Ny143.out]; exact HP21.1); clear HP21; replace BK131 := uD (blk_grown (pk BK131) hg (Kd.R_ne HO_3.out BK131.out (by decide))); replace BK132 := uD (blk_grown (pk BK132) hg (Kd.R_ne HO_3.out BK132.out (by decide))); replace HO_3 := uD (hp_); replace HB := uD ((by rw [hw]; exact uM (HB.out) GB17.out : Below w.heap.size w w22)); clear hg hw hp_)))
          go_roundg k1
          case measure => have := HK1.out; omega
          case rel => exact ⟨(y143), (wrap64 (x4_1 + 1)), (by first | rfl | (simp; done) | (simp [*]; done)), H', ⟨by have := HK1.out; omega⟩, ⟨by (with_reducible repeat (first | apply uU | apply uS | apply uT)); exact HO_3.out⟩, ⟨by (with_reducible repeat first|apply uH|apply uJ|apply uG); exact BK131.out⟩, ⟨by (with_reducible repeat first|apply uH|apply uJ|apply uG); exact BK132.out⟩, ⟨pb HB⟩⟩
         ·rw [if_neg c16] at H
          have c16b0 : decide (((rd_T53 x3_1 x4_1).f1) < (wrap64 ((wrap64 (((rd_T53 x3_1 (ji12)).f1) - ((rd_T53 x3_1 (ji12)).f2))) - a0_1))) = false := decide_eq_false c16
          clear c16
          have H' := uD H
          clear H
          obtain ⟨Ao23, co23, eo23⟩ := Kd.R_slice HO_3.out
          subst eo23
          have hnb24 := NB131_132.out
          have hnc24 := NB132_131.out
          obtain ⟨hcz25_0, hcz25_1, hcz25_2, hcz25_3, hfz25_0, hfz25_1, hfz25_2, hfz25_3⟩ := cz4 BK131
          have p139 : 0 ≤ ((ji12) : Int) := of_decide_eq_true (by first | (with_reducible assumption) | assumption)
          have q139 : (ji12) < (x3_1.length : Int) := of_decide_eq_true (by first | (with_reducible assumption) | assumption)
          obtain ⟨ad139, e139, hx139_0, hx139_1, hx139_2⟩ := at_T53 (Kd.R_reads' HO_3.out).2.2 (ji12) p139 q139
          cases e139
          replace p139 := eq_true p139
          replace q139 := eq_true q139
          have p140 : 0 ≤ ((ji12) : Int) := of_decide_eq_true (by first | (with_reducible assumption) | assumption)
          have q140 : (ji12) < (x3_1.length : Int) := of_decide_eq_true (by first | (with_reducible assumption) | assumption)
          obtain ⟨ad140, e140, hx140_0, hx140_1, hx140_2⟩ := at_T53 (Kd.R_reads' HO_3.out).2.2 (ji12) p140 q140
          obtain rfl : ad139 = ad140 := (by injection e140)
          replace p140 := eq_true p140
          replace q140 := eq_true q140
          have p141 : 0 ≤ (x4_1 : Int) := of_decide_eq_true (by first | (with_reducible assumption) | assumption)
          have q141 : x4_1 < (x3_1.length : Int) := of_decide_eq_true (by first | (with_reducible assumption) | assumption)
          obtain ⟨ad141, e141, hx141_0, hx141_1, hx141_2⟩ := at_T53 (Kd.R_reads' HO_3.out).2.2 x4_1 p141 q141
          obtain rfl : ad139 = ad141 := (by injection e141)
          replace p141 := eq_true p141
          replace q141 := eq_true q141
          go_wp2
          repeat (go_quiet (fail); try go_wp2)
          go_roundg k1
          case measure => have := HK1.out; omega
          case rel => exact ⟨(x3_1), (wrap64 (x4_1 + 1)), (by first | rfl | (simp; done) | (simp [*]; done)), H', ⟨by have := HK1.out; omega⟩, ⟨by (with_reducible repeat (first | apply uU | apply uS | apply uT)); exact HO_3.out⟩, ⟨by (with_reducible repeat first|apply uH|apply uJ|apply uG); exact BK131.out⟩, ⟨by (with_reducible repeat first|apply uH|apply uJ|apply uG); exact BK132.out⟩, ⟨pb HB⟩⟩
        ·rw [if_neg c15] at H
         exact absurd H (by simp)
       ·rw [if_neg c14] at H
        exact absurd H (by simp)
      ·rw [if_neg c13] at H
       exact absurd H (by simp)
     ·rw [if_neg c11] at H
      have c11b0 : decide (0 < x4_1) = false := decide_eq_false c11
      clear c11
      by_cases c26 : 0 ≤ x4_1
      ·rw [if_pos c26] at H
       have c26b0 : decide (0 ≤ x4_1) = true := decide_eq_true c26
       clear c26
       by_cases c27 : ((rd_T53 x3_1 x4_1).f1) < a0_0
       ·rw [if_pos c27] at H
        have c27b0 : decide (((rd_T53 x3_1 x4_1).f1) < a0_0) = true := decide_eq_true c27
        clear c27
        obtain ⟨y146, hy146⟩ : ∃ y_ : List (S53), y_ = (x3_1.set (x4_1 : Int).toNat (⟨(rd_T53 x3_1 x4_1).f0, wrap64 (((rd_T53 x3_1 x4_1).f1) + 1), (rd_T53 x3_1 x4_1).f2⟩ : S53)) := ⟨_, rfl⟩
        replace H : (spec_l02Step.l0 k1 y146 (wrap64 (x4_1 + 1)) a0_0 a0_1 a0_2 l0_3) = some (r1, r2, r3, r4) := by first | (rw [hy146]; with_reducible exact H) | (have H2_ := (Option.bind_some _ _).symm.trans H; rw [hy146]; with_reducible exact H2_) | (have H2_ := (Option.bind_some _ _).symm.trans H; with_reducible exact H2_) | with_reducible exact H | (rw [hy146]; exact H) | exact H
        have Ny146 := uD hy146
        clear hy146
        have H' := uD H
        clear H
        obtain ⟨Ao29, co29, eo29⟩ := Kd.R_slice HO_3.out
        subst eo29
        have hnb30 := NB131_132.out
        have hnc30 := NB132_131.out
        obtain ⟨hcz31_0, hcz31_1, hcz31_2, hcz31_3, hfz31_0, hfz31_1, hfz31_2, hfz31_3⟩ := cz4 BK131
        have p144 : 0 ≤ (x4_1 : Int) := of_decide_eq_true (by first | (with_reducible assumption) | assumption)
        have q144 : x4_1 < (x3_1.length : Int) := of_decide_eq_true (by first | (with_reducible assumption) | assumption)
        obtain ⟨ad144, e144, hx144_0, hx144_1, hx144_2⟩ := at_T53 (Kd.R_reads' HO_3.out).2.2 x4_1 p144 q144
        cases e144
        replace p144 := eq_true p144
        replace q144 := eq_true q144
        have p145 : 0 ≤ (x4_1 : Int) := of_decide_eq_true (by first | (with_reducible assumption) | assumption)
        have q145 : x4_1 < (x3_1.length : Int) := of_decide_eq_true (by first | (with_reducible assumption) | assumption)
        obtain ⟨ad145, e145, hx145_0, hx145_1, hx145_2⟩ := at_T53 (Kd.R_reads' HO_3.out).2.2 x4_1 p145 q145
        obtain rfl : ad144 = ad145 := (by injection e145)
        replace p145 := eq_true p145
        replace q145 := eq_true q145
        have p28 : 0 ≤ (x4_1 : Int) := of_decide_eq_true (by first | (with_reducible assumption) | assumption)
        have q28 : (x4_1 : Int) < ((x3_1.length : Int) : Int) := of_decide_eq_true (by first | (with_reducible assumption) | assumption)
        obtain ⟨go28, co28, eo28, gb28, gl28, cl28, HG28⟩ := Kd.R_form HO_3.out (by omega)
        (first | cases eo28 | (injection eo28 with ea_ en_ ec_; (first | subst ea_ | (injection ea_ with ea_; subst ea_)); subst ec_; clear en_))
        have GB28 := uD gb28
        have GG28 := uD HG28
        clear gb28 gl28 HG28
        (first | simp only [add_plain] at hx144_0 | skip)
        (first | simp only [add_plain] at hx144_1 | skip)
        (first | simp only [add_plain] at hx144_2 | skip)
        (first | simp only [add_plain] at hx145_0 | skip)
        (first | simp only [add_plain] at hx145_1 | skip)
        (first | simp only [add_plain] at hx145_2 | skip)
        obtain ⟨ce28, hcl28, hM28, hcc28, hfr28⟩ := Kd.R_elem HO_3.out z53 (x4_1 : Int) p28 q28
        obtain rfl := k53_openM hM28
        have hx28_0 : wr.cell? ⟨go28, (x4_1 : Int).toNat * 3, none⟩ = some (.int .i64 ((rd_T53 x3_1 x4_1).f0)) := hcc28 0 _ rfl
        have hx28_1 : wr.cell? ⟨go28, (x4_1 : Int).toNat * 3 + 1, none⟩ = some (.int .i64 ((rd_T53 x3_1 x4_1).f1)) := hcc28 1 _ rfl
        have hx28_2 : wr.cell? ⟨go28, (x4_1 : Int).toNat * 3 + 2, none⟩ = some (.int .i64 ((rd_T53 x3_1 x4_1).f2)) := hcc28 2 _ rfl
        have hf28_0 : wr.frozen? ⟨go28, (x4_1 : Int).toNat * 3, none⟩ = false := hfr28 0
        have hf28_1 : wr.frozen? ⟨go28, (x4_1 : Int).toNat * 3 + 1, none⟩ = false := hfr28 1
        have hf28_2 : wr.frozen? ⟨go28, (x4_1 : Int).toNat * 3 + 2, none⟩ = false := hfr28 2
        clear hcl28 hcc28 hfr28 hM28
        replace p28 := eq_true p28
        replace q28 := eq_true q28
        have HX32 := uD (show Kd.R k53 53 wr w.heap.size (fun _ => True) (.slice (some ⟨go28, 0, none⟩) x3_1.length co29) x3_1 from (pr HO_3))
        obtain ⟨ce32, hcl32, hM32, hcc32, hfr32⟩ := Kd.R_elem HX32.out z53 (x4_1 : Int) (of_decide_eq_true (by first | (with_reducible assumption) | assumption)) (by have h_ : (x4_1 : Int) < ((x3_1.length : Int) : Int) := of_decide_eq_true (by first | (with_reducible assumption) | assumption); first | exact h_ | (have e_ := (Kd.R_reads' HO_3.out).1; omega) | simpa using h_)
        obtain rfl := k53_openM hM32
        have HP32 := Kd.R_seg HX32.out (x4_1 : Int) (of_decide_eq_true (by first | (with_reducible assumption) | assumption)) (by have h_ : (x4_1 : Int) < ((x3_1.length : Int) : Int) := of_decide_eq_true (by first | (with_reducible assumption) | assumption); first | exact h_ | (have e_ := (Kd.R_reads' HO_3.out).1; omega) | simpa using h_) (seg := [.int .i64 (wrap64 (((rd_T53 x3_1 x4_1).f1) + 1))]) (j := 1) hcl32 hcc32 (show 2 ≤ 3 from by decide) (x' := (⟨(rd_T53 x3_1 x4_1).f0, wrap64 (((rd_T53 x3_1 x4_1).f1) + 1), (rd_T53 x3_1 x4_1).f2⟩ : S53)) (k53_mkM _ _ _ (⟨(rd_T53 x3_1 x4_1).f0, wrap64 (((rd_T53 x3_1 x4_1).f1) + 1), (rd_T53 x3_1 x4_1).f2⟩ : S53) ) (fun _ hk => hk)
        have hx32_1 := hcc32 1 _ rfl
        (try simp only [show (k53).sz = 3 from rfl, Nat.mul_one, Nat.add_zero] at hx32_1)
        have hf32_1 := hfr32 1
        (try simp only [show (k53).sz = 3 from rfl, Nat.mul_one, Nat.add_zero] at hf32_1)
        clear hcl32 hcc32 hfr32 hM32
        go_wp2_with (first | ((with_reducible refine gate_store (t := 3) (p := 52) rfl ?_); (try (rw [drewN_self wr]; generalize hq_ : World.drewN wr _ = wr; have n0_ := uD (Kd.R_at hq_ HO_3.out); have n1_ := uD (blk_at hq_ BK131.out); have n2_ := uD (blk_at hq_ BK132.out); have n3_ := uD (below_at hq_ HB.out); clear hq_ HO_3 BK131 BK132 HB; have HO_3 := n0_; have BK131 := n1_; have BK132 := n2_; have HB := n3_; clear n0_ n1_ n2_ n3_; (try (have HX32 := uD (show Kd.R k53 53 wr w.heap.size (fun _ => True) (.slice (some ⟨go28, 0, none⟩) x3_1.length co29) x3_1 from (pr HO_3)))); (try (obtain ⟨ce32, hcl32, hM32, hcc32, hfr32⟩ := Kd.R_elem HX32.out z53 (x4_1 : Int) (of_decide_eq_true (by first | (with_reducible assumption) | assumption)) (by have h_ : (x4_1 : Int) < ((x3_1.length : Int) : Int) := of_decide_eq_true (by first | (with_reducible assumption) | assumption); first | exact h_ | (have e_ := (Kd.R_reads' HO_3.out).1; omega) | simpa using h_))); (try (obtain rfl := k53_openM hM32)); (try (have HP32 := Kd.R_seg HX32.out (x4_1 : Int) (of_decide_eq_true (by first | (with_reducible assumption) | assumption)) (by have h_ : (x4_1 : Int) < ((x3_1.length : Int) : Int) := of_decide_eq_true (by first | (with_reducible assumption) | assumption); first | exact h_ | (have e_ := (Kd.R_reads' HO_3.out).1; omega) | simpa using h_) (seg := [.int .i64 (wrap64 (((rd_T53 x3_1 x4_1).f1) + 1))]) (j := 1) hcl32 hcc32 (show 2 ≤ 3 from by decide) (x' := (⟨(rd_T53 x3_1 x4_1).f0, wrap64 (((rd_T53 x3_1 x4_1).f1) + 1), (rd_T53 x3_1 x4_1).f2⟩ : S53)) (k53_mkM _ _ _ (⟨(rd_T53 x3_1 x4_1).f0, wrap64 (((rd_T53 x3_1 x4_1).f1) + 1), (rd_T53 x3_1 x4_1).f2⟩ : S53) ) (fun _ hk => hk))); (try (have hx32_1 := hcc32 1 _ rfl)); (try (try simp only [show (k53).sz = 3 from rfl, Nat.mul_one, Nat.add_zero] at hx32_1)); (try (have hf32_1 := hfr32 1)); (try (try simp only [show (k53).sz = 3 from rfl, Nat.mul_one, Nat.add_zero] at hf32_1)); (try (clear hcl32 hcc32 hfr32 hM32)))); refine store_event (t := 3) (p := 52) (v := ?vo_w33) (w1 := (wr.setCell ⟨go28, (x4_1 : Int).toNat * 3 + 1, none⟩ (.int .i64 (wrap64 (((rd_T53 x3_1 x4_1).f1) + 1))))) ?hg ?ho ?hn ?hr ?_; (case ho => rfl); (case hg => rfl); (case hn => rfl); (case hr => first | (go_simp; done) | (go_simp; rfl)); intro w33 hw; have hg : wr.grownBy w33 (some go28) := (by rw [hw]; exact HP32.2); have hp_ : Kd.R k53 53 w33 w.heap.size (fun _ => True) (.slice (some ⟨go28, 0, none⟩) x3_1.length co29) y146 := (by rw [hw, Ny146.out]; exact HP32.1); clear HP32; replace BK131 := uD (blk_grown (pk BK131) hg (Kd.R_ne HO_3.out BK131.out (by decide))); replace BK132 := uD (blk_grown (pk BK132) hg (Kd.R_ne HO_3.out BK132.out (by decide))); replace HO_3 := uD (hp_); replace HB := uD ((by rw [hw]; exact uM (HB.out) GB28.out : Below w.heap.size w w33)); clear hg hw hp_))
        repeat (go_quiet (first | ((with_reducible refine gate_store (t := 3) (p := 52) rfl ?_); (try (rw [drewN_self wr]; generalize hq_ : World.drewN wr _ = wr; have n0_ := uD (Kd.R_at hq_ HO_3.out); have n1_ := uD (blk_at hq_ BK131.out); have n2_ := uD (blk_at hq_ BK132.out); have n3_ := uD (below_at hq_ HB.out); clear hq_ HO_3 BK131 BK132 HB; have HO_3 := n0_; have BK131 := n1_; have BK132 := n2_; have HB := n3_; clear n0_ n1_ n2_ n3_; (try (have HX32 := uD (show Kd.R k53 53 wr w.heap.size (fun _ => True) (.slice (some ⟨go28, 0, none⟩) x3_1.length co29) x3_1 from (pr HO_3)))); (try (obtain ⟨ce32, hcl32, hM32, hcc32, hfr32⟩ := Kd.R_elem HX32.out z53 (x4_1 : Int) (of_decide_eq_true (by first | (with_reducible assumption) | assumption)) (by have h_ : (x4_1 : Int) < ((x3_1.length : Int) : Int) := of_decide_eq_true (by first | (with_reducible assumption) | assumption); first | exact h_ | (have e_ := (Kd.R_reads' HO_3.out).1; omega) | simpa using h_))); (try (obtain rfl := k53_openM hM32)); (try (have HP32 := Kd.R_seg HX32.out (x4_1 : Int) (of_decide_eq_true (by first | (with_reducible assumption) | assumption)) (by have h_ : (x4_1 : Int) < ((x3_1.length : Int) : Int) := of_decide_eq_true (by first | (with_reducible assumption) | assumption); first | exact h_ | (have e_ := (Kd.R_reads' HO_3.out).1; omega) | simpa using h_) (seg := [.int .i64 (wrap64 (((rd_T53 x3_1 x4_1).f1) + 1))]) (j := 1) hcl32 hcc32 (show 2 ≤ 3 from by decide) (x' := (⟨(rd_T53 x3_1 x4_1).f0, wrap64 (((rd_T53 x3_1 x4_1).f1) + 1), (rd_T53 x3_1 x4_1).f2⟩ : S53)) (k53_mkM _ _ _ (⟨(rd_T53 x3_1 x4_1).f0, wrap64 (((rd_T53 x3_1 x4_1).f1) + 1), (rd_T53 x3_1 x4_1).f2⟩ : S53) ) (fun _ hk => hk))); (try (have hx32_1 := hcc32 1 _ rfl)); (try (try simp only [show (k53).sz = 3 from rfl, Nat.mul_one, Nat.add_zero] at hx32_1)); (try (have hf32_1 := hfr32 1)); (try (try simp only [show (k53).sz = 3 from rfl, Nat.mul_one, Nat.add_zero] at hf32_1)); (try (clear hcl32 hcc32 hfr32 hM32)))); refine store_event (t := 3) (p := 52) (v := ?vo_w33) (w1 := (wr.setCell ⟨go28, (x4_1 : Int).toNat * 3 + 1, none⟩ (.int .i64 (wrap64 (((rd_T53 x3_1 x4_1).f1) + 1))))) ?hg ?ho ?hn ?hr ?_; (case ho => rfl); (case hg => rfl); (case hn => rfl); (case hr => first | (go_simp; done) | (go_simp; rfl)); intro w33 hw; have hg : wr.grownBy w33 (some go28) := (by rw [hw]; exact HP32.2); have hp_ : Kd.R k53 53 w33 w.heap.size (fun _ => True) (.slice (some ⟨go28, 0, none⟩) x3_1.length co29) y146 := (by rw [hw, Ny146.out]; exact HP32.1); clear HP32; replace BK131 := uD (blk_grown (pk BK131) hg (Kd.R_ne HO_3.out BK131.out (by decide))); replace BK132 := uD (blk_grown (pk BK132) hg (Kd.R_ne HO_3.out BK132.out (by decide))); replace HO_3 := uD (hp_); replace HB := uD ((by rw [hw]; exact uM (HB.out) GB28.out : Below w.heap.size w w33)); clear hg hw hp_)); try go_wp2_with (first | ((with_reducible refine gate_store (t := 3) (p := 52) rfl ?_); (try (rw [drewN_self wr]; generalize hq_ : World.drewN wr _ = wr; have n0_ := uD (Kd.R_at hq_ HO_3.out); have n1_ := uD (blk_at hq_ BK131.out); have n2_ := uD (blk_at hq_ BK132.out); have n3_ := uD (below_at hq_ HB.out); clear hq_ HO_3 BK131 BK132 HB; have HO_3 := n0_; have BK131 := n1_; have BK132 := n2_; have HB := n3_; clear n0_ n1_ n2_ n3_; (try (have HX32 := uD (show Kd.R k53 53 wr w.heap.size (fun _ => True) (.slice (some ⟨go28, 0, none⟩) x3_1.length co29) x3_1 from (pr HO_3)))); (try (obtain ⟨ce32, hcl32, hM32, hcc32, hfr32⟩ := Kd.R_elem HX32.out z53 (x4_1 : Int) (of_decide_eq_true (by first | (with_reducible assumption) | assumption)) (by have h_ : (x4_1 : Int) < ((x3_1.length : Int) : Int) := of_decide_eq_true (by first | (with_reducible assumption) | assumption); first | exact h_ | (have e_ := (Kd.R_reads' HO_3.out).1; omega) | simpa using h_))); (try (obtain rfl := k53_openM hM32)); (try (have HP32 := Kd.R_seg HX32.out (x4_1 : Int) (of_decide_eq_true (by first | (with_reducible assumption) | assumption)) (by have h_ : (x4_1 : Int) < ((x3_1.length : Int) : Int) := of_decide_eq_true (by first | (with_reducible assumption) | assumption); first | exact h_ | (have e_ := (Kd.R_reads' HO_3.out).1; omega) | simpa using h_) (seg := [.int .i64 (wrap64 (((rd_T53 x3_1 x4_1).f1) + 1))]) (j := 1) hcl32 hcc32 (show 2 ≤ 3 from by decide) (x' := (⟨(rd_T53 x3_1 x4_1).f0, wrap64 (((rd_T53 x3_1 x4_1).f1) + 1), (rd_T53 x3_1 x4_1).f2⟩ : S53)) (k53_mkM _ _ _ (⟨(rd_T53 x3_1 x4_1).f0, wrap64 (((rd_T53 x3_1 x4_1).f1) + 1), (rd_T53 x3_1 x4_1).f2⟩ : S53) ) (fun _ hk => hk))); (try (have hx32_1 := hcc32 1 _ rfl)); (try (try simp only [show (k53).sz = 3 from rfl, Nat.mul_one, Nat.add_zero] at hx32_1)); (try (have hf32_1 := hfr32 1)); (try (try simp only [show (k53).sz = 3 from rfl, Nat.mul_one, Nat.add_zero] at hf32_1)); (try (clear hcl32 hcc32 hfr32 hM32)))); refine store_event (t := 3) (p := 52) (v := ?vo_w33) (w1 := (wr.setCell ⟨go28, (x4_1 : Int).toNat * 3 + 1, none⟩ (.int .i64 (wrap64 (((rd_T53 x3_1 x4_1).f1) + 1))))) ?hg ?ho ?hn ?hr ?_; (case ho => rfl); (case hg => rfl); (case hn => rfl); (case hr => first | (go_simp; done) | (go_simp; rfl)); intro w33 hw; have hg : wr.grownBy w33 (some go28) := (by rw [hw]; exact HP32.2); have hp_ : Kd.R k53 53 w33 w.heap.size (fun _ => True) (.slice (some ⟨go28, 0, none⟩) x3_1.length co29) y146 := (by rw [hw, Ny146.out]; exact HP32.1); clear HP32; replace BK131 := uD (blk_grown (pk BK131) hg (Kd.R_ne HO_3.out BK131.out (by decide))); replace BK132 := uD (blk_grown (pk BK132) hg (Kd.R_ne HO_3.out BK132.out (by decide))); replace HO_3 := uD (hp_); replace HB := uD ((by rw [hw]; exact uM (HB.out) GB28.out : Below w.heap.size w w33)); clear hg hw hp_)))
        go_roundg k1
        case measure => have := HK1.out; omega
        case rel => exact ⟨(y146), (wrap64 (x4_1 + 1)), (by first | rfl | (simp; done) | (simp [*]; done)), H', ⟨by have := HK1.out; omega⟩, ⟨by (with_reducible repeat (first | apply uU | apply uS | apply uT)); exact HO_3.out⟩, ⟨by (with_reducible repeat first|apply uH|apply uJ|apply uG); exact BK131.out⟩, ⟨by (with_reducible repeat first|apply uH|apply uJ|apply uG); exact BK132.out⟩, ⟨pb HB⟩⟩
       ·rw [if_neg c27] at H
        have c27b0 : decide (((rd_T53 x3_1 x4_1).f1) < a0_0) = false := decide_eq_false c27
        clear c27
        have H' := uD H
        clear H
        obtain ⟨Ao34, co34, eo34⟩ := Kd.R_slice HO_3.out
        subst eo34
        have hnb35 := NB131_132.out
        have hnc35 := NB132_131.out
        obtain ⟨hcz36_0, hcz36_1, hcz36_2, hcz36_3, hfz36_0, hfz36_1, hfz36_2, hfz36_3⟩ := cz4 BK131
        have p144 : 0 ≤ (x4_1 : Int) := of_decide_eq_true (by first | (with_reducible assumption) | assumption)
        have q144 : x4_1 < (x3_1.length : Int) := of_decide_eq_true (by first | (with_reducible assumption) | assumption)
        obtain ⟨ad144, e144, hx144_0, hx144_1, hx144_2⟩ := at_T53 (Kd.R_reads' HO_3.out).2.2 x4_1 p144 q144
        cases e144
        replace p144 := eq_true p144
        replace q144 := eq_true q144
        go_wp2
        repeat (go_quiet (fail); try go_wp2)
        go_roundg k1
        case measure => have := HK1.out; omega
        case rel => exact ⟨(x3_1), (wrap64 (x4_1 + 1)), (by first | rfl | (simp; done) | (simp [*]; done)), H', ⟨by have := HK1.out; omega⟩, ⟨by (with_reducible repeat (first | apply uU | apply uS | apply uT)); exact HO_3.out⟩, ⟨by (with_reducible repeat first|apply uH|apply uJ|apply uG); exact BK131.out⟩, ⟨by (with_reducible repeat first|apply uH|apply uJ|apply uG); exact BK132.out⟩, ⟨pb HB⟩⟩
      ·rw [if_neg c26] at H
       exact absurd H (by simp)
    ·rw [if_neg c10] at H
     have c10b0 : decide (x4_1 < (x3_1.length : Int)) = false := decide_eq_false c10
     clear c10
     simp only [Option.some.injEq, Prod.mk.injEq] at H
     obtain ⟨rfl, rfl, rfl, rfl⟩ := H
     obtain ⟨Ao37, co37, eo37⟩ := Kd.R_slice HO_3.out
     subst eo37
     have hnb38 := NB131_132.out
     have hnc38 := NB132_131.out
     obtain ⟨hcz39_0, hcz39_1, hcz39_2, hcz39_3, hfz39_0, hfz39_1, hfz39_2, hfz39_3⟩ := cz4 BK131
     obtain ⟨hcz40_0, hcz40_1, hcz40_2, hcz40_3, hfz40_0, hfz40_1, hfz40_2, hfz40_3⟩ := cz4 BK132
     go_wp2
     repeat (go_quiet (fail); try go_wp2)
     refine bodyPost_ret (results_cell_row rfl _ _ gb132 29 #[.int .i64 a0_0, .int .i64 a0_1, .bool a0_2, .slice Ao37 x3_1.length co37] (0, 0) _ rfl (by (with_reducible repeat first|apply uH|apply uJ|apply uG); refine uP (cs := #[.int .i64 a0_0, .int .i64 a0_1, .bool a0_2, .slice none 0 0]) ?_ 3 _ rfl; (with_reducible repeat first|apply uH|apply uJ|apply uG); refine uP (cs := #[.int .i64 a0_0, .int .i64 a0_1, .bool false, .slice none 0 0]) ?_ 2 _ rfl; (with_reducible repeat first|apply uH|apply uJ|apply uG); refine uP (cs := #[.int .i64 a0_0, .int .i64 0, .bool false, .slice none 0 0]) ?_ 1 _ rfl; (with_reducible repeat first|apply uH|apply uJ|apply uG); refine uP (cs := #[.int .i64 0, .int .i64 0, .bool false, .slice none 0 0]) ?_ 0 _ rfl; exact ps BK132) Try.underlying29 rfl (by kernel_rfl)) rfl ?_
     exact ⟨_, by first | rfl | (simp [errW_none, errW_some] <;> rfl) | (simp [*, errW_none, errW_some] <;> rfl), by (with_reducible repeat (first | apply uU | apply uS | apply uT)); exact uX (uV (p := ⟨gb132, 3, none⟩) (uV (p := ⟨gb132, 2, none⟩) (uV (p := ⟨gb132, 1, none⟩) (uV (p := ⟨gb132, 0, none⟩) (uV (p := ⟨gb131, 3, none⟩) (uW (uW HO_3.out BK131.out (by decide)) BK132.out (by decide)) (fun _ hk => hk.1.2) (.slice Ao37 x3_1.length co37)) (fun _ hk => hk.2) (.int .i64 a0_0)) (fun _ hk => hk.2) (.int .i64 a0_1)) (fun _ hk => hk.2) (.bool a0_2)) (fun _ hk => hk.2) (.slice Ao37 x3_1.length co37)) (fun _ hk => trivial), pb HB⟩
 ·rw [if_neg c2] at H
  exact absurd H (by simp)

end Go.Proofs.Ytbdjbdoelbmjcaa.PFnBeltEnters
