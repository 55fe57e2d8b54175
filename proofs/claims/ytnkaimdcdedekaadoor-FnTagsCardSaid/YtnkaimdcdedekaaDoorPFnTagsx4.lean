-- Written by a program of this session (wip/myprint.py: the kit's print with changes): not by print.sh itself.
import Derived.Test.YtnkaimdcdedekaaDoorPFnTagsx0
import Derived.Test.YtnkaimdcdedekaaDoorPFnTagsx2
import Derived.Test.YtnkaimdcdedekaaDoorPFnTagsx3
namespace Go.Proofs.YtnkaimdcdedekaaDoor.PFnTags
open Go.RowKit Go.Proofs.YtnkaimdcdedekaaDoorW.PrintWords Go.Proofs.YtnkaimdcdedekaaDoorW.PrintLast Go.Proofs.YtnkaimdcdedekaaDoorW.PrintMore
open Go renaming Act.put → uc
open Go.Proofs.YtnkaimdcdedekaaDoorW.PrintLast renaming i64_w → uZ, i32_w → ua, pure_ → ub
open Go.Proofs.YtnkaimdcdedekaaDoorW.PrintWords renaming Aside0.mk → uD, blk_cell → uF, blk_alloc → uG, blk_drewN → uH, blk_drew → uJ, below_drew1 → uK, below_set → uM, below_size → uN, below_step → uO, blk_put → uP, results_ct → uR, Kd.R_drew → uT, Kd.R_far → uV, Kd.R_mono → uX
open List renaming setIfInBounds_toArray → uA, set_cons_zero → uB, set_cons_succ → uC
open Bool renaming true → T, false → F
attribute [local go_sem] max2_int min2_int max_two min_two max_three min_three max_four min_four   -- for this text's walks alone
set_option linter.unusedVariables false
set_option linter.unusedSimpArgs false

/-! ### spec_ParseTag: function 15 -/
def spec_ParseTag.f (k : Nat) (a0 : ByteArray) : Option (Int × Int × Int × Bool) := (spec_Candidates.f k a0).bind fun bt137 => (if bt137.2 = true then (if (bt137.1.length : Int) = 1 then (if 0 < (bt137.1.length : Int) then ((spec_FormatTag.f k ((rd_T25 bt137.1 0).f0) ((rd_T25 bt137.1 0).f1) ((rd_T25 bt137.1 0).f2)).bind fun t142 => (if t142.toList = a0.toList then (some ((rd_T25 bt137.1 0).f0, (rd_T25 bt137.1 0).f1, (rd_T25 bt137.1 0).f2, true)) else (some (0, 0, 0, false)))) else (none)) else (some (0, 0, 0, false))) else (some (0, 0, 0, false)))
theorem spec_ParseTag.mono : ∀ a0 k, LeO (spec_ParseTag.f k a0) (spec_ParseTag.f (k + 1) a0) := by
 intro a0 k
 unfold spec_ParseTag.f
 repeat' first
   | (with_reducible exact spec_Candidates.mono _ _)
   | (with_reducible exact spec_FormatTag.mono _ _ _ _)
   | (with_reducible exact LeO.refl _)
   | (with_reducible exact LeO.none _)
   | (with_reducible refine LeO.ite ?_ ?_)
   | (with_reducible refine LeO.bind ?_ (fun _ => ?_))
   | exact spec_Candidates.mono _ _
   | exact spec_FormatTag.mono _ _ _ _
   | exact LeO.none _
   | refine LeO.ite ?_ ?_
   | refine LeO.bind ?_ (fun _ => ?_)
set_option maxHeartbeats 8000000 in
set_option maxRecDepth 100000 in
theorem spec_ParseTag.calls (k : Nat) (a0 : ByteArray) (r1 : Int) (r2 : Int) (r3 : Int) (r4 : Bool) (w : World) (h : spec_ParseTag.f k a0 = some (r1, r2, r3, r4)) :
  Calls Tryd.prog 15 #[.string a0] w fun e w' => e = .returned (.tuple #[.agg #[.int .i64 r1, .int .i64 r2, .int .i64 r3], .bool r4]) ∧ Below w.heap.size w w' := by
 have hu25 := Tryd.underlying25
 have HB := uD (Below.refl w.heap.size w)
 have H : ((spec_Candidates.f k a0).bind fun bt137 => (if bt137.2 = true then (if (bt137.1.length : Int) = 1 then (if 0 < (bt137.1.length : Int) then ((spec_FormatTag.f k ((rd_T25 bt137.1 0).f0) ((rd_T25 bt137.1 0).f1) ((rd_T25 bt137.1 0).f2)).bind fun t142 => (if t142.toList = a0.toList then (some ((rd_T25 bt137.1 0).f0, (rd_T25 bt137.1 0).f1, (rd_T25 bt137.1 0).f2, true)) else (some (0, 0, 0, false)))) else (none)) else (some (0, 0, 0, false))) else (some (0, 0, 0, false)))) = some (r1, r2, r3, r4) := h
 clear h
 replace H := Option.bind_eq_some_iff.mp H
 obtain ⟨⟨t137, t138⟩, A20, H⟩ := H
 replace H : (if t138 = true then (if (t137.length : Int) = 1 then (if 0 < (t137.length : Int) then ((spec_FormatTag.f k ((rd_T25 t137 0).f0) ((rd_T25 t137 0).f1) ((rd_T25 t137 0).f2)).bind fun t142 => (if t142.toList = a0.toList then (some ((rd_T25 t137 0).f0, (rd_T25 t137 0).f1, (rd_T25 t137 0).f2, true)) else (some (0, 0, 0, false)))) else (none)) else (some (0, 0, 0, false))) else (some (0, 0, 0, false))) = some (r1, r2, r3, r4) := H
 have A2 := uD A20
 clear A20
 by_cases c3 : t138 = true
 ·subst c3
  have H1 : (if (t137.length : Int) = 1 then (if 0 < (t137.length : Int) then ((spec_FormatTag.f k ((rd_T25 t137 0).f0) ((rd_T25 t137 0).f1) ((rd_T25 t137 0).f2)).bind fun t142 => (if t142.toList = a0.toList then (some ((rd_T25 t137 0).f0, (rd_T25 t137 0).f1, (rd_T25 t137 0).f2, true)) else (some (0, 0, 0, false)))) else (none)) else (some (0, 0, 0, false))) = some (r1, r2, r3, r4) := by rw [if_pos rfl] at H; first | done | exact H
  clear H
  have H := H1
  clear H1
  by_cases c4 : (t137.length : Int) = 1
  ·rw [if_pos c4] at H
   have c4b0 : ((t137.length : Int) == 1) = true := beq_iff_eq.mpr c4
   have c4b1 : ((t137.length : Int) != 1) = false := bne_eq_false_iff_eq.mpr c4
   clear c4
   by_cases c5 : 0 < (t137.length : Int)
   ·rw [if_pos c5] at H
    have c5b0 : decide (0 < (t137.length : Int)) = true := decide_eq_true c5
    have c5b1 : decide (0 < t137.length) = true := decide_eq_true (by omega)
    clear c5
    replace H := Option.bind_eq_some_iff.mp H
    obtain ⟨t142, A60, H⟩ := H
    replace H : (if t142.toList = a0.toList then (some ((rd_T25 t137 0).f0, (rd_T25 t137 0).f1, (rd_T25 t137 0).f2, true)) else (some (0, 0, 0, false))) = some (r1, r2, r3, r4) := H
    have A6 := uD A60
    clear A60
    by_cases c7 : t142.toList = a0.toList
    ·rw [if_pos c7] at H
     have c7b0 : (t142.toList == a0.toList) = true := beq_iff_eq.mpr c7
     have c7b1 : (t142.toList != a0.toList) = false := bne_eq_false_iff_eq.mpr c7
     clear c7
     simp only [Option.some.injEq, Prod.mk.injEq] at H
     obtain ⟨rfl, rfl, rfl, rfl⟩ := H
     go_enter Tryd.func15, Tryd.ntmps15
     go_wp2_with (first | ((with_reducible refine gate_dst (N := 2) rfl ?_); (try (refine gate_guard (by rfl) ?_; dsimp only)); refine bx 2 #[.int .i64 0, .int .i64 0, .int .i64 0] 25 ?_; intro gb136 hg w8 hbox hb; have BK136 := uD (hbox); have GW136 := uD ((by rw [hg]; exact (uN (pb HB)) : w.heap.size ≤ gb136)); have GE136 := uD ((by rw [hg]; exact (uN (pb HB)) : w.heap.size ≤ gb136)); replace HB := uD (uO (pb HB) hb); clear hb hbox hg) | ((with_reducible refine gate_callee (f := 20) rfl ?_); refine gl (some 8) Tryd.func20 #[.string a0] ?_; (with_reducible refine (spec_Candidates.calls k a0 t137 true _ A2.out).mono ?_); rintro e w9 ⟨v139, rfl, ho0, hb⟩; refine ⟨_, rfl, ?_⟩; have HO140 := uD (Kd.R_lower (Kd.R_newB ho0 (pk BK136)) (uN (pb HB))); replace BK136 := uD (blk_below (pk BK136) hb); replace HB := uD (uO (pb HB) hb); (try clear hb); (try clear hb2); (try clear hk); (try clear hi); (try clear ho0); obtain ⟨Ao10, co10, eo10⟩ := Kd.R_slice HO140.out; subst eo10; have p141 : 0 ≤ (0 : Int) := (by omega); have q141 : 0 < (t137.length : Int) := of_decide_eq_true (by first | (with_reducible assumption) | assumption); obtain ⟨ad141, e141, hx141_0, hx141_1, hx141_2⟩ := at_T25 (Kd.R_reads' HO140.out).2.2 0 p141 q141; cases e141; have qi141 : (0 < t137.length) = True := eq_true (by omega); (try rw [show ((0 : Int)).toNat = 0 from rfl] at hx141_0); (try rw [show 0 * 3 = 0 from rfl] at hx141_0); (try rw [Addr.add_zero'] at hx141_0); (try rw [show ((0 : Int)).toNat = 0 from rfl] at hx141_1); (try rw [show 0 * 3 = 0 from rfl] at hx141_1); (try rw [Addr.add_zero'] at hx141_1); (try rw [show ((0 : Int)).toNat = 0 from rfl] at hx141_2); (try rw [show 0 * 3 = 0 from rfl] at hx141_2); (try rw [Addr.add_zero'] at hx141_2); replace p141 := eq_true p141; replace q141 := eq_true q141) | (go_at_call 12; (with_reducible refine (spec_FormatTag.calls k ((rd_T25 t137 0).f0) ((rd_T25 t137 0).f1) ((rd_T25 t137 0).f2) t142 _ A6.out).mono ?_); rintro e w11 ⟨rfl, hb⟩; replace HO140 := uD (Kd.R_below (pr HO140) hb); replace BK136 := uD (blk_below (pk BK136) hb); replace HB := uD (uO (pb HB) hb); (try clear hb); (try clear hb2); (try clear hk); (try clear hi); have p143 : 0 ≤ (0 : Int) := (by omega); have q143 : 0 < (t137.length : Int) := of_decide_eq_true (by first | (with_reducible assumption) | assumption); obtain ⟨ad143, e143, hx143_0, hx143_1, hx143_2⟩ := at_T25 (Kd.R_reads' HO140.out).2.2 0 p143 q143; obtain rfl : ad141 = ad143 := (by injection e143); have qi143 : (0 < t137.length) = True := eq_true (by omega); (try rw [show ((0 : Int)).toNat = 0 from rfl] at hx143_0); (try rw [show 0 * 3 = 0 from rfl] at hx143_0); (try rw [Addr.add_zero'] at hx143_0); (try rw [show ((0 : Int)).toNat = 0 from rfl] at hx143_1); (try rw [show 0 * 3 = 0 from rfl] at hx143_1); (try rw [Addr.add_zero'] at hx143_1); (try rw [show ((0 : Int)).toNat = 0 from rfl] at hx143_2); (try rw [show 0 * 3 = 0 from rfl] at hx143_2); (try rw [Addr.add_zero'] at hx143_2); replace p143 := eq_true p143; replace q143 := eq_true q143; obtain ⟨hcz12_0, hcz12_1, hcz12_2, hfz12_0, hfz12_1, hfz12_2⟩ := cz3 BK136))
     refine bodyPost_ret (uR rfl _ _ gb136 25 #[.int .i64 ((rd_T25 t137 0).f0), .int .i64 ((rd_T25 t137 0).f1), .int .i64 ((rd_T25 t137 0).f2)] (0, 0) _ rfl (by (with_reducible repeat first|apply uH|apply uJ|apply uG); refine uP (cs := #[.int .i64 ((rd_T25 t137 0).f0), .int .i64 ((rd_T25 t137 0).f1), .int .i64 0]) ?_ 2 _ rfl; (with_reducible repeat first|apply uH|apply uJ|apply uG); refine uP (cs := #[.int .i64 ((rd_T25 t137 0).f0), .int .i64 0, .int .i64 0]) ?_ 1 _ rfl; (with_reducible repeat first|apply uH|apply uJ|apply uG); refine uP (cs := #[.int .i64 0, .int .i64 0, .int .i64 0]) ?_ 0 _ rfl; (with_reducible repeat first|apply uH|apply uJ|apply uG); exact BK136.out) Tryd.underlying25 rfl (by kernel_rfl)) rfl ?_
     exact ⟨by first | rfl | (simp [errW_none, errW_some] <;> rfl) | (simp [*, errW_none, errW_some] <;> rfl), pb HB⟩
    ·rw [if_neg c7] at H
     have c7b0 : (t142.toList == a0.toList) = false := beq_eq_false_iff_ne.mpr c7
     have c7b1 : (t142.toList != a0.toList) = true := bne_iff_ne.mpr c7
     simp only [Option.some.injEq, Prod.mk.injEq] at H
     obtain ⟨rfl, rfl, rfl, rfl⟩ := H
     go_enter Tryd.func15, Tryd.ntmps15
     go_wp2_with (first | ((with_reducible refine gate_dst (N := 2) rfl ?_); (try (refine gate_guard (by rfl) ?_; dsimp only)); refine bx 2 #[.int .i64 0, .int .i64 0, .int .i64 0] 25 ?_; intro gb136 hg w13 hbox hb; have BK136 := uD (hbox); have GW136 := uD ((by rw [hg]; exact (uN (pb HB)) : w.heap.size ≤ gb136)); have GE136 := uD ((by rw [hg]; exact (uN (pb HB)) : w.heap.size ≤ gb136)); replace HB := uD (uO (pb HB) hb); clear hb hbox hg) | ((with_reducible refine gate_callee (f := 20) rfl ?_); refine gl (some 8) Tryd.func20 #[.string a0] ?_; (with_reducible refine (spec_Candidates.calls k a0 t137 true _ A2.out).mono ?_); rintro e w14 ⟨v139, rfl, ho0, hb⟩; refine ⟨_, rfl, ?_⟩; have HO140 := uD (Kd.R_lower (Kd.R_newB ho0 (pk BK136)) (uN (pb HB))); replace BK136 := uD (blk_below (pk BK136) hb); replace HB := uD (uO (pb HB) hb); (try clear hb); (try clear hb2); (try clear hk); (try clear hi); (try clear ho0); obtain ⟨Ao15, co15, eo15⟩ := Kd.R_slice HO140.out; subst eo15; have p141 : 0 ≤ (0 : Int) := (by omega); have q141 : 0 < (t137.length : Int) := of_decide_eq_true (by first | (with_reducible assumption) | assumption); obtain ⟨ad141, e141, hx141_0, hx141_1, hx141_2⟩ := at_T25 (Kd.R_reads' HO140.out).2.2 0 p141 q141; cases e141; have qi141 : (0 < t137.length) = True := eq_true (by omega); (try rw [show ((0 : Int)).toNat = 0 from rfl] at hx141_0); (try rw [show 0 * 3 = 0 from rfl] at hx141_0); (try rw [Addr.add_zero'] at hx141_0); (try rw [show ((0 : Int)).toNat = 0 from rfl] at hx141_1); (try rw [show 0 * 3 = 0 from rfl] at hx141_1); (try rw [Addr.add_zero'] at hx141_1); (try rw [show ((0 : Int)).toNat = 0 from rfl] at hx141_2); (try rw [show 0 * 3 = 0 from rfl] at hx141_2); (try rw [Addr.add_zero'] at hx141_2); replace p141 := eq_true p141; replace q141 := eq_true q141) | (go_at_call 12; (with_reducible refine (spec_FormatTag.calls k ((rd_T25 t137 0).f0) ((rd_T25 t137 0).f1) ((rd_T25 t137 0).f2) t142 _ A6.out).mono ?_); rintro e w16 ⟨rfl, hb⟩; replace HO140 := uD (Kd.R_below (pr HO140) hb); replace BK136 := uD (blk_below (pk BK136) hb); replace HB := uD (uO (pb HB) hb); (try clear hb); (try clear hb2); (try clear hk); (try clear hi); obtain ⟨hcz17_0, hcz17_1, hcz17_2, hfz17_0, hfz17_1, hfz17_2⟩ := cz3 BK136))
     refine bodyPost_ret (uR rfl _ _ gb136 25 #[.int .i64 0, .int .i64 0, .int .i64 0] (0, 0) _ rfl (by (with_reducible repeat first|apply uH|apply uJ|apply uG); refine uP (cs := #[.int .i64 0, .int .i64 0, .int .i64 0]) ?_ 2 _ rfl; (with_reducible repeat first|apply uH|apply uJ|apply uG); refine uP (cs := #[.int .i64 0, .int .i64 0, .int .i64 0]) ?_ 1 _ rfl; (with_reducible repeat first|apply uH|apply uJ|apply uG); refine uP (cs := #[.int .i64 0, .int .i64 0, .int .i64 0]) ?_ 0 _ rfl; (with_reducible repeat first|apply uH|apply uJ|apply uG); exact BK136.out) Tryd.underlying25 rfl (by kernel_rfl)) rfl ?_
     exact ⟨by first | rfl | (simp [errW_none, errW_some] <;> rfl) | (simp [*, errW_none, errW_some] <;> rfl), pb HB⟩
   ·rw [if_neg c5] at H
    exact absurd H (by simp)
  ·rw [if_neg c4] at H
   have c4b0 : ((t137.length : Int) == 1) = false := beq_eq_false_iff_ne.mpr c4
   have c4b1 : ((t137.length : Int) != 1) = true := bne_iff_ne.mpr c4
   simp only [Option.some.injEq, Prod.mk.injEq] at H
   obtain ⟨rfl, rfl, rfl, rfl⟩ := H
   go_enter Tryd.func15, Tryd.ntmps15
   go_wp2_with (first | ((with_reducible refine gate_dst (N := 2) rfl ?_); (try (refine gate_guard (by rfl) ?_; dsimp only)); refine bx 2 #[.int .i64 0, .int .i64 0, .int .i64 0] 25 ?_; intro gb136 hg w18 hbox hb; have BK136 := uD (hbox); have GW136 := uD ((by rw [hg]; exact (uN (pb HB)) : w.heap.size ≤ gb136)); have GE136 := uD ((by rw [hg]; exact (uN (pb HB)) : w.heap.size ≤ gb136)); replace HB := uD (uO (pb HB) hb); clear hb hbox hg) | ((with_reducible refine gate_callee (f := 20) rfl ?_); refine gl (some 8) Tryd.func20 #[.string a0] ?_; (with_reducible refine (spec_Candidates.calls k a0 t137 true _ A2.out).mono ?_); rintro e w19 ⟨v139, rfl, ho0, hb⟩; refine ⟨_, rfl, ?_⟩; have HO140 := uD (Kd.R_lower (Kd.R_newB ho0 (pk BK136)) (uN (pb HB))); replace BK136 := uD (blk_below (pk BK136) hb); replace HB := uD (uO (pb HB) hb); (try clear hb); (try clear hb2); (try clear hk); (try clear hi); (try clear ho0); obtain ⟨Ao20, co20, eo20⟩ := Kd.R_slice HO140.out; subst eo20; obtain ⟨hcz21_0, hcz21_1, hcz21_2, hfz21_0, hfz21_1, hfz21_2⟩ := cz3 BK136))
   refine bodyPost_ret (uR rfl _ _ gb136 25 #[.int .i64 0, .int .i64 0, .int .i64 0] (0, 0) _ rfl (by (with_reducible repeat first|apply uH|apply uJ|apply uG); refine uP (cs := #[.int .i64 0, .int .i64 0, .int .i64 0]) ?_ 2 _ rfl; (with_reducible repeat first|apply uH|apply uJ|apply uG); refine uP (cs := #[.int .i64 0, .int .i64 0, .int .i64 0]) ?_ 1 _ rfl; (with_reducible repeat first|apply uH|apply uJ|apply uG); refine uP (cs := #[.int .i64 0, .int .i64 0, .int .i64 0]) ?_ 0 _ rfl; (with_reducible repeat first|apply uH|apply uJ|apply uG); exact BK136.out) Tryd.underlying25 rfl (by kernel_rfl)) rfl ?_
   exact ⟨by first | rfl | (simp [errW_none, errW_some] <;> rfl) | (simp [*, errW_none, errW_some] <;> rfl), pb HB⟩
 ·replace c3 := Bool.eq_false_iff.mpr c3
  subst c3
  have H1 : (some (0, 0, 0, false)) = some (r1, r2, r3, r4) := by rw [if_neg (show ¬ (false = true) by decide)] at H; first | done | exact H
  clear H
  have H := H1
  clear H1
  simp only [Option.some.injEq, Prod.mk.injEq] at H
  obtain ⟨rfl, rfl, rfl, rfl⟩ := H
  go_enter Tryd.func15, Tryd.ntmps15
  go_wp2_with (first | ((with_reducible refine gate_dst (N := 2) rfl ?_); (try (refine gate_guard (by rfl) ?_; dsimp only)); refine bx 2 #[.int .i64 0, .int .i64 0, .int .i64 0] 25 ?_; intro gb136 hg w22 hbox hb; have BK136 := uD (hbox); have GW136 := uD ((by rw [hg]; exact (uN (pb HB)) : w.heap.size ≤ gb136)); have GE136 := uD ((by rw [hg]; exact (uN (pb HB)) : w.heap.size ≤ gb136)); replace HB := uD (uO (pb HB) hb); clear hb hbox hg) | ((with_reducible refine gate_callee (f := 20) rfl ?_); refine gl (some 8) Tryd.func20 #[.string a0] ?_; (with_reducible refine (spec_Candidates.calls k a0 t137 false _ A2.out).mono ?_); rintro e w23 ⟨v139, rfl, ho0, hb⟩; refine ⟨_, rfl, ?_⟩; have HO140 := uD (Kd.R_lower (Kd.R_newB ho0 (pk BK136)) (uN (pb HB))); replace BK136 := uD (blk_below (pk BK136) hb); replace HB := uD (uO (pb HB) hb); (try clear hb); (try clear hb2); (try clear hk); (try clear hi); (try clear ho0); obtain ⟨hcz24_0, hcz24_1, hcz24_2, hfz24_0, hfz24_1, hfz24_2⟩ := cz3 BK136))
  refine bodyPost_ret (uR rfl _ _ gb136 25 #[.int .i64 0, .int .i64 0, .int .i64 0] (0, 0) _ rfl (by (with_reducible repeat first|apply uH|apply uJ|apply uG); refine uP (cs := #[.int .i64 0, .int .i64 0, .int .i64 0]) ?_ 2 _ rfl; (with_reducible repeat first|apply uH|apply uJ|apply uG); refine uP (cs := #[.int .i64 0, .int .i64 0, .int .i64 0]) ?_ 1 _ rfl; (with_reducible repeat first|apply uH|apply uJ|apply uG); refine uP (cs := #[.int .i64 0, .int .i64 0, .int .i64 0]) ?_ 0 _ rfl; (with_reducible repeat first|apply uH|apply uJ|apply uG); exact BK136.out) Tryd.underlying25 rfl (by kernel_rfl)) rfl ?_
  exact ⟨by first | rfl | (simp [errW_none, errW_some] <;> rfl) | (simp [*, errW_none, errW_some] <;> rfl), pb HB⟩

/-! ### impl_tagOf: function 50 -/
def impl_tagOf.f (a0 : Int) : Option (Int × Int × Int) := some (wrap64 (Int.tdiv a0 1000000000), Int.tmod (wrap64 (Int.tdiv a0 1000000)) 1000, Int.tmod a0 1000000)
set_option maxHeartbeats 8000000 in
set_option maxRecDepth 100000 in
theorem impl_tagOf.calls (a0 : Int) (r1 : Int) (r2 : Int) (r3 : Int) (w : World) (h : impl_tagOf.f a0 = some (r1, r2, r3)) :
  Calls Tryd.prog 50 #[.int .i64 a0] w fun e w' => e = .returned (.agg #[.int .i64 r1, .int .i64 r2, .int .i64 r3]) ∧ Below w.heap.size w w' := by
 have hu25 := Tryd.underlying25
 have HB := uD (Below.refl w.heap.size w)
 have H : (some (wrap64 (Int.tdiv a0 1000000000), Int.tmod (wrap64 (Int.tdiv a0 1000000)) 1000, Int.tmod a0 1000000)) = some (r1, r2, r3) := h
 clear h
 simp only [Option.some.injEq, Prod.mk.injEq] at H
 obtain ⟨rfl, rfl, rfl⟩ := H
 go_enter Tryd.func50, Tryd.ntmps50
 go_wp2_with (first | ((with_reducible refine gate_dst (N := 2) rfl ?_); refine bx 2 #[.int .i64 0, .int .i64 0, .int .i64 0] 25 ?_; intro gb144 hg w2 hbox hb; have BK144 := uD (hbox); have GW144 := uD ((by rw [hg]; exact (uN (pb HB)) : w.heap.size ≤ gb144)); have GE144 := uD ((by rw [hg]; exact (uN (pb HB)) : w.heap.size ≤ gb144)); replace HB := uD (uO (pb HB) hb); clear hb hbox hg; obtain ⟨hcz3_0, hcz3_1, hcz3_2, hfz3_0, hfz3_1, hfz3_2⟩ := cz3 BK144))
 refine bodyPost_ret (results_cell_row rfl _ _ gb144 25 #[.int .i64 (wrap64 (Int.tdiv a0 1000000000)), .int .i64 (Int.tmod (wrap64 (Int.tdiv a0 1000000)) 1000), .int .i64 (Int.tmod a0 1000000)] (0, 0) _ rfl (by (with_reducible repeat first|apply uH|apply uJ|apply uG); refine uP (cs := #[.int .i64 (wrap64 (Int.tdiv a0 1000000000)), .int .i64 (Int.tmod (wrap64 (Int.tdiv a0 1000000)) 1000), .int .i64 0]) ?_ 2 _ rfl; (with_reducible repeat first|apply uH|apply uJ|apply uG); refine uP (cs := #[.int .i64 (wrap64 (Int.tdiv a0 1000000000)), .int .i64 0, .int .i64 0]) ?_ 1 _ rfl; (with_reducible repeat first|apply uH|apply uJ|apply uG); refine uP (cs := #[.int .i64 0, .int .i64 0, .int .i64 0]) ?_ 0 _ rfl; (with_reducible repeat first|apply uH|apply uJ|apply uG); exact BK144.out) Tryd.underlying25 rfl (by kernel_rfl)) rfl ?_
 exact ⟨by first | rfl | (simp [errW_none, errW_some] <;> rfl) | (simp [*, errW_none, errW_some] <;> rfl), pb HB⟩

/-! ### impl_Candidates: function 21 -/
theorem impl_Candidates.info : (Tryd.prog.info? 25).map (fun i => (i.zero, i.size, i.bytes)) = some (some (.agg #[(.int .i64 0), (.int .i64 0), (.int .i64 0)]), 3, 24) := by kernel_rfl
/-- The number that digits tell. -/
def impl_Candidates.num (l : List Int) : Int := l.foldl (fun n c => wrap64 (wrap64 (10 * n) + (c - 48) % 256)) 0
/-- The tag of a text whose bytes are all known, added if it is one. -/
def impl_Candidates.leaf (k : Nat) (xs : List Int) (o : List S25) : Option (List S25) :=
  (impl_tagOf.f (impl_Candidates.num (xs.take 10))).bind fun t => (impl_FormatTag.f k t.1 t.2.1 t.2.2).bind fun x => if x.toList = (strOfNums xs).toList then (if o.length < 5864062014805 then some (o ++ [(⟨t.1, t.2.1, t.2.2⟩ : S25)]) else none) else some o
/-- d rounds from c on. -/
def impl_Candidates.rounds (g : Nat → List S25 → Option (List S25)) : Nat → Nat → List S25 → Option (List S25)
  | 0, _, o => some o
  | d + 1, c, o => (g c o).bind fun o => impl_Candidates.rounds g d (c + 1) o
/-- What impl.filled adds: the bytes before, the bytes from the index on. -/
def impl_Candidates.fl (k : Nat) : List Int → List Int → List S25 → Option (List S25)
  | pre, [], o => impl_Candidates.leaf k pre o
  | pre, x :: suf, o => if x = 63 then impl_Candidates.rounds (fun c o => impl_Candidates.fl k (pre ++ [((48 + c : Nat) : Int)]) suf o) 10 0 o else impl_Candidates.fl k (pre ++ [x]) suf o
theorem impl_Candidates.leaf_mono (k : Nat) (xs : List Int) (o : List S25) : LeO (impl_Candidates.leaf k xs o) (impl_Candidates.leaf (k + 1) xs o) :=
  LeO.bind (LeO.refl _) fun _ => LeO.bind (impl_FormatTag.mono _ _ _ k) fun _ => LeO.refl _
theorem impl_Candidates.rounds_mono {g h : Nat → List S25 → Option (List S25)} (hg : ∀ c o, LeO (g c o) (h c o)) : ∀ (d c : Nat) (o : List S25), LeO (impl_Candidates.rounds g d c o) (impl_Candidates.rounds h d c o)
  | 0, _, _ => LeO.refl _
  | d + 1, c, o => LeO.bind (hg c o) fun _ => impl_Candidates.rounds_mono hg d (c + 1) _
theorem impl_Candidates.fl_mono (k : Nat) : ∀ (suf pre : List Int) (o : List S25), LeO (impl_Candidates.fl k pre suf o) (impl_Candidates.fl (k + 1) pre suf o)
  | [], pre, o => impl_Candidates.leaf_mono k pre o
  | x :: suf, pre, o => by
    rw [impl_Candidates.fl, impl_Candidates.fl]
    exact LeO.ite (impl_Candidates.rounds_mono (fun c o => impl_Candidates.fl_mono k suf _ o) 10 0 o) (impl_Candidates.fl_mono k suf _ o)
theorem impl_Candidates.rd_at (l : List Int) (i : Nat) (h : i < l.length) : rd l (i : Int) = l[i] := by
  simp [rd, List.getD_eq_getElem?_getD, List.getElem?_eq_getElem h]
theorem impl_Candidates.fl_no {k : Nat} {xs : List Int} {j : Nat} {o : List S25} (h : j < xs.length) (hx : ¬ rd xs (j : Int) = 63) : impl_Candidates.fl k (xs.take j) (xs.drop j) o = impl_Candidates.fl k (xs.take (j + 1)) (xs.drop (j + 1)) o := by
  rw [impl_Candidates.rd_at xs j h] at hx
  rw [List.drop_eq_getElem_cons h, impl_Candidates.fl, if_neg hx, List.take_succ_eq_append_getElem h]
theorem impl_Candidates.fl_yes {k : Nat} {xs : List Int} {j : Nat} {o : List S25} (h : j < xs.length) (hx : rd xs (j : Int) = 63) : impl_Candidates.fl k (xs.take j) (xs.drop j) o = impl_Candidates.rounds (fun c o => impl_Candidates.fl k (xs.take j ++ [((48 + c : Nat) : Int)]) (xs.drop (j + 1)) o) 10 0 o := by
  rw [impl_Candidates.rd_at xs j h] at hx
  rw [List.drop_eq_getElem_cons h, impl_Candidates.fl, if_pos hx]
theorem impl_Candidates.set_take (xs : List Int) (j : Nat) (y : Int) (h : j < xs.length) : (xs.set j y).take (j + 1) = xs.take j ++ [y] := by
  rw [List.take_succ_eq_append_getElem (by simpa using h), List.take_set, List.set_eq_of_length_le (by simp; omega), List.getElem_set_self]
theorem impl_Candidates.set_drop (xs : List Int) (j : Nat) (y : Int) : (xs.set j y).drop (j + 1) = xs.drop (j + 1) := by
  rw [List.drop_set_of_lt (by omega)]
theorem impl_Candidates.set_back (xs : List Int) (j : Nat) (y : Int) (h : j < xs.length) (hx : rd xs (j : Int) = 63) : (xs.set j y).set j 63 = xs := by
  rw [impl_Candidates.rd_at xs j h] at hx
  rw [List.set_set, ← hx, List.set_getElem_self]
theorem impl_Candidates.set_self (xs : List Int) (j : Nat) (h : j < xs.length) (hx : rd xs (j : Int) = 63) : xs.set j 63 = xs := by
  rw [impl_Candidates.rd_at xs j h] at hx
  rw [← hx, List.set_getElem_self]
/-- The statement of impl.filled, for the indices behind j. -/
def impl_Candidates.Said (k : Nat) (w0 : World) (g b c j : Nat) : Prop := ∀ (xs : List Int) (i : Nat) (o o' : List S25) (v : Value) (w : World), xs.length = 12 → i ≤ 12 → j < i →
    Fb 5 w g xs → w.heap[b]? = some (.cells #[v] 32 (0, 0)) → Kd.R k25 25 w w0.heap.size (fun k_ => k_ ≠ g ∧ k_ ≠ b) v o → Below w0.heap.size w0 w → impl_Candidates.fl k (xs.take i) (xs.drop i) o = some o' →
    Calls Tryd.prog 46 #[.slice (some ⟨g, 0, none⟩) xs.length c, .int .i64 (i : Int), .pointer (some ⟨b, 0, none⟩)] w fun e w' => e = .returned (.tuple #[]) ∧ Fb 5 w' g xs ∧ (∃ v', w'.heap[b]? = some (.cells #[v'] 32 (0, 0)) ∧ Kd.R k25 25 w' w0.heap.size (fun k_ => k_ ≠ g ∧ k_ ≠ b) v' o') ∧ Below w0.heap.size w0 w'
theorem impl_Candidates.use {k : Nat} {w0 : World} {g b c j : Nat} (IH : Aside0 (impl_Candidates.Said k w0 g b c j)) {xs : List Int} {i m : Nat} {z : Int} {o o' : List S25} {v : Value} {w : World} (HL : Aside0 (xs.length = 12)) (C1 : Aside0 (i < 12)) (HI : Aside0 (j ≤ i ∧ i ≤ 12)) (HZ : Aside0 (z = ((48 + m : Nat) : Int)))
    (HF : Aside0 (Fb 5 w g (xs.set i z))) (BK : Aside0 (w.heap[b]? = some (.cells #[v] 32 (0, 0)))) (HR : Aside0 (Kd.R k25 25 w w0.heap.size (fun k_ => k_ ≠ g ∧ k_ ≠ b) v o)) (HB : Aside0 (Below w0.heap.size w0 w)) (HFL : Aside0 (impl_Candidates.fl k (xs.take i ++ [((48 + m : Nat) : Int)]) (xs.drop (i + 1)) o = some o')) :
    Calls Tryd.prog 46 #[.slice (some ⟨g, 0, none⟩) xs.length c, .int .i64 (wrap64 ((i : Int) + 1)), .pointer (some ⟨b, 0, none⟩)] w fun e w' => e = .returned (.tuple #[]) ∧ Fb 5 w' g (xs.set i z) ∧ (∃ v', w'.heap[b]? = some (.cells #[v'] 32 (0, 0)) ∧ Kd.R k25 25 w' w0.heap.size (fun k_ => k_ ≠ g ∧ k_ ≠ b) v' o') ∧ Below w0.heap.size w0 w' := by
  have hl := HL.out
  have hi := C1.out
  have hj := HI.out
  have e1 : wrap64 ((i : Int) + 1) = ((i + 1 : Nat) : Int) := by unfold wrap64; omega
  have := IH.out (xs.set i z) (i + 1) o o' v w (by simpa using hl) (by omega) (by omega) HF.out BK.out HR.out HB.out (by rw [impl_Candidates.set_take _ _ _ (by omega), impl_Candidates.set_drop, HZ.out]; exact HFL.out)
  rw [List.length_set] at this
  rw [e1]
  exact this
theorem impl_Candidates.cut (g n c : Nat) (h : 10 ≤ n) (hc : n ≤ c) : ∀ W, (Instr.sliceAt 37 (.slice (some ⟨g, 0, none⟩) n c) none (some (.int .i64 10)) none).run Tryd.prog W = .ok (.slice (some ⟨g, 0, none⟩) 10 c) W := by
  intro W
  have hu := Tryd.underlying37
  have e1 : ∀ y code, 10 ≤ y → (Instr.sliceBound (.int .i64 10) y code).run Tryd.prog W = .ok 10 W := by
    intro y code hy
    simp [Instr.sliceBound, asIntOf, go_sem]
    omega
  have e2 := fun code => e1 c code (by omega)
  simp [Instr.sliceAt, Instr.slice, Instr.sliceBounds, run_underlying hu, e2, go_sem]
theorem impl_Candidates.num_next (xs : List Int) (q : Nat) (h : q < xs.length) : impl_Candidates.num (xs.take (q + 1)) = wrap64 (wrap64 (10 * impl_Candidates.num (xs.take q)) + (rd xs (q : Int) - 48) % 256) := by
  rw [List.take_succ_eq_append_getElem h, impl_Candidates.num, List.foldl_append, impl_Candidates.rd_at xs q h]
  rfl
set_option maxHeartbeats 16000000 in
set_option maxRecDepth 100000 in
theorem impl_Candidates.filled (k : Nat) (w0 : World) (g b c : Nat) (hg0 : w0.heap.size ≤ g) (hb0 : w0.heap.size ≤ b) (hne : g ≠ b) (htab : Tab1 Tryd.prog w0) (hc : 12 ≤ c) (d : Nat) : ∀ (xs : List Int) (j : Nat) (o o' : List S25) (v : Value) (w : World), xs.length = 12 → j ≤ 12 → 12 - j = d →
    Fb 5 w g xs → w.heap[b]? = some (.cells #[v] 32 (0, 0)) → Kd.R k25 25 w w0.heap.size (fun k_ => k_ ≠ g ∧ k_ ≠ b) v o → Below w0.heap.size w0 w → impl_Candidates.fl k (xs.take j) (xs.drop j) o = some o' →
    Calls Tryd.prog 46 #[.slice (some ⟨g, 0, none⟩) xs.length c, .int .i64 (j : Int), .pointer (some ⟨b, 0, none⟩)] w fun e w' => e = .returned (.tuple #[]) ∧ Fb 5 w' g xs ∧ (∃ v', w'.heap[b]? = some (.cells #[v'] 32 (0, 0)) ∧ Kd.R k25 25 w' w0.heap.size (fun k_ => k_ ≠ g ∧ k_ ≠ b) v' o') ∧ Below w0.heap.size w0 w' := by
  induction d using Nat.strongRecOn with
  | _ d ih =>
  intro xs j o o' v w hl hj hd hF hbk hR hB hfl
  have IH : Aside0 (impl_Candidates.Said k w0 g b c j) :=
    ⟨fun xs i o o' v w h1 h2 h3 => ih (12 - i) (by omega) xs i o o' v w h1 h2 rfl⟩
  have HF := uD hF
  have BK := uD hbk
  have HR := uD hR
  have HB := uD hB
  have HFL := uD hfl
  have HL := uD hl
  have HJ := uD hj
  have GG := uD hg0
  have GB := uD hb0
  have NE := uD hne
  have HT := uD htab
  have HC := uD hc
  clear ih hF hbk hR hB hfl hl hj hg0 hb0 hne htab hc hd
  go_enter Tryd.func46, Tryd.ntmps46
  go_wp2
  go_loopg [1] 12 (fun gg v1 wr => ∃ i : Nat, v1 = .int .i64 (i : Int) ∧ wr = w ∧ Aside0 (12 - i ≤ gg) ∧ Aside0 (j ≤ i ∧ i ≤ 12) ∧ Aside0 (impl_Candidates.fl k (xs.take i) (xs.drop i) o = some o'))
  case atStart => exact ⟨j, rfl, rfl, ⟨by omega⟩, ⟨Nat.le_refl _, HJ.out⟩, HFL⟩
  case round =>
    obtain ⟨i, rfl, rfl, HG, HI, HFI⟩ := hrel
    clear HFL HJ
    by_cases c1 : i < 12
    · have p1 := eq_true (show (0 : Int) ≤ (i : Int) by omega)
      have q1 := eq_true (show (i : Int) < (xs.length : Int) by have := HL.out; omega)
      have b1 : decide ((i : Int) < (xs.length : Int)) = true := decide_eq_true (of_eq_true q1)
      obtain ⟨hx, hf⟩ := HF.out.cell (i : Int) (of_eq_true p1) (of_eq_true q1)
      rw [Int.toNat_natCast] at hx hf
      by_cases c2 : rd xs (i : Int) = 63
      · have b2 : (rd xs (i : Int) == 63) = true := beq_iff_eq.mpr c2
        have b3 : (rd xs (i : Int) != 63) = false := bne_eq_false_iff_eq.mpr c2
        have C1 := uD c1
        have C2 := uD c2
        have HRO := uD ((impl_Candidates.fl_yes (by have := HL.out; omega) c2).symm.trans HFI.out)
        clear c1 c2 HFI
        go_wp2
        go_loopg [6] 10 (fun gg v6 wq => ∃ (m : Nat) (z y : Int) (o1 : List S25) (v1 : Value), v6 = .int .u8 z ∧ Aside0 (z = ((48 + m : Nat) : Int)) ∧ Aside0 (m ≤ 10 ∧ 10 - m ≤ gg) ∧ Aside0 (Fb 5 wq g (xs.set i y)) ∧ Aside0 (wq.heap[b]? = some (.cells #[v1] 32 (0, 0))) ∧ Aside0 (Kd.R k25 25 wq w0.heap.size (fun k_ => k_ ≠ g ∧ k_ ≠ b) v1 o1) ∧ Aside0 (Below w0.heap.size w0 wq) ∧ Aside0 (impl_Candidates.rounds (fun c o => impl_Candidates.fl k (xs.take i ++ [((48 + c : Nat) : Int)]) (xs.drop (i + 1)) o) (10 - m) m o1 = some o'))
        case atStart => exact ⟨0, 48, 63, o, v, rfl, ⟨rfl⟩, ⟨by omega, by omega⟩, ⟨by rw [impl_Candidates.set_self xs i (by have := HL.out; have := C1.out; omega) C2.out]; exact HF.out⟩, BK, HR, HB, HRO⟩
        case round =>
          clear HRO HF BK HR HB hx hf b2 b3
          obtain ⟨m, z, y, o1, v1, rfl, HZ, HM, HF, BK, HR, HB, HRO⟩ := hrel
          have hxl : (xs.set i y).length = xs.length := List.length_set
          by_cases c3 : m < 10
          · have b4 : decide (z ≤ 57) = true := decide_eq_true (by have := HZ.out; omega)
            have hro := HRO.out
            rw [show 10 - m = 9 - m + 1 by omega, impl_Candidates.rounds] at hro
            obtain ⟨o2, h1, h2⟩ := Option.bind_eq_some_iff.mp hro
            have HFL := uD h1
            have HRO2 := uD h2
            have C3 := uD c3
            clear hro HRO h1 h2 c3
            obtain ⟨hx, hf⟩ := HF.out.cell (i : Int) (of_eq_true p1) (by rw [hxl]; exact of_eq_true q1)
            have HP := uD (HF.out.put (i : Int) z (of_eq_true p1) (by rw [hxl]; exact of_eq_true q1))
            rw [Int.toNat_natCast] at hx hf HP
            rw [List.set_set] at HP
            clear hxl
            go_wp2_with (first
              | ((with_reducible refine gate_store (t := 5) (p := 35) rfl ?_); refine store_event (t := 5) (p := 35) (v := ?vo_w39) (w1 := (wr.setCell ⟨g, i, none⟩ (.int .u8 z))) ?hg ?ho ?hn ?hr ?_; (case ho => rfl); (case hg => rfl); (case hn => rfl); (case hr => first | (go_simp; done) | (go_simp; rfl)); intro w39 hw; replace HF := uD (show Fb 5 w39 g (xs.set i z) by rw [hw]; exact HP.out); replace BK := uD (show w39.heap[b]? = some (.cells #[v1] 32 (0, 0)) by rw [hw]; exact blk_far BK.out (Ne.symm NE.out) _); replace HR := uD (show Kd.R k25 25 w39 w0.heap.size (fun k_ => k_ ≠ g ∧ k_ ≠ b) v1 o1 by rw [hw]; exact uV HR.out (fun _ hk => hk.1) _); replace HB := uD (show Below w0.heap.size w0 w39 by rw [hw]; exact below_set HB.out GG.out); clear hw HP; clear hx hf)
              | (go_at_call 46; refine (impl_Candidates.use IH (i := i) (z := z) (o := o1) (o' := o2) (v := v1) HL C1 HI HZ HF BK HR HB HFL).mono ?_; rintro e w40 ⟨rfl, hf2, ⟨v2, hb2, hr2⟩, hbw⟩; replace HF := uD hf2; replace BK := uD hb2; replace HR := uD hr2; replace HB := uD hbw; clear hf2 hb2 hr2 hbw))
            go_roundg (10 - (m + 1))
            case measure => have := HM.out; have := C3.out; omega
            case rel => exact ⟨m + 1, _, z, o2, v2, rfl, ⟨by have := HZ.out; have := C3.out; omega⟩, ⟨by have := C3.out; omega, Nat.le_refl _⟩, HF, BK, HR, HB, ⟨by rw [show 10 - (m + 1) = 9 - m by omega]; exact HRO2.out⟩⟩
          · have b4 : decide (z ≤ 57) = false := decide_eq_false (by have := HZ.out; omega)
            obtain rfl : m = 10 := by have := HM.out; omega
            obtain rfl : o1 = o' := Option.some.inj HRO.out
            obtain ⟨hx, hf⟩ := HF.out.cell (i : Int) (of_eq_true p1) (by rw [hxl]; exact of_eq_true q1)
            have HP := uD (HF.out.put (i : Int) 63 (of_eq_true p1) (by rw [hxl]; exact of_eq_true q1))
            rw [Int.toNat_natCast] at hx hf HP
            rw [impl_Candidates.set_back xs i y (by have := HL.out; have := C1.out; omega) C2.out] at HP
            clear hxl
            go_wp2
            first | go_end0 | ((try simp only [Exit.inBlock, Exit.then]); refine bodyPost_ret (results_none rfl _ _ _) rfl ?_)
            exact ⟨rfl, HP.out, ⟨v1, blk_far BK.out (Ne.symm NE.out) _, uV HR.out (fun _ hk => hk.1) _⟩, below_set HB.out GG.out⟩
      · have b2 : (rd xs (i : Int) == 63) = false := beq_eq_false_iff_ne.mpr c2
        have b3 : (rd xs (i : Int) != 63) = true := bne_iff_ne.mpr c2
        have C1 := uD c1
        have C2 := uD c2
        clear c1 c2
        go_wp2
        go_roundg (12 - (i + 1))
        case measure => have := HG.out; have := C1.out; omega
        case rel => exact ⟨i + 1, by have := C1.out; unfold wrap64; simp; omega, rfl, ⟨Nat.le_refl _⟩, ⟨by have := HI.out.1; omega, C1.out⟩, ⟨by rw [← impl_Candidates.fl_no (by have := HL.out; have := C1.out; omega) C2.out]; exact HFI.out⟩⟩
    · have hi : i = 12 := by have := HI.out; omega
      have hleaf : impl_Candidates.leaf k xs o = some o' := by
        have := HFI.out
        rwa [List.take_of_length_le (by have := HL.out; omega), List.drop_eq_nil_of_le (by have := HL.out; omega), impl_Candidates.fl] at this
      have b1 : decide ((i : Int) < (xs.length : Int)) = false := decide_eq_false (by have := HL.out; omega)
      have q1 := eq_false (show ¬ (i : Int) < (xs.length : Int) by have := HL.out; omega)
      have q1n := eq_false (show ¬ i < xs.length by have := HL.out; omega)
      obtain ⟨⟨t1, t2, t3⟩, ht, hleaf⟩ := Option.bind_eq_some_iff.mp hleaf
      obtain ⟨x, hx, hleaf⟩ := Option.bind_eq_some_iff.mp hleaf
      have A1 := uD ht
      have A2 := uD hx
      have HLF := uD hleaf
      have hcut := impl_Candidates.cut g xs.length c (by have := HL.out; omega) (by have := HL.out; have := HC.out; omega)
      clear c1 hi HFI ht hx hleaf HI HG
      go_wp2
      go_loopg [7, 9, 47] 10 (fun gg v7 v9 v47 wq => ∃ (q : Nat) (n : Int), v7 = .int .i64 n ∧ v47 = .int .i64 (q : Int) ∧ wq = wr ∧ Aside0 (q ≤ 10 ∧ 10 - q ≤ gg) ∧ Aside0 (n = impl_Candidates.num (xs.take q)))
      case atStart => exact ⟨0, 0, rfl, rfl, rfl, ⟨by omega, by omega⟩, ⟨rfl⟩⟩
      case round =>
        obtain ⟨q, n, rfl, rfl, rfl, HQ, HN⟩ := hrel
        by_cases c4 : q < 10
        · have p2 := eq_true (show (0 : Int) ≤ (q : Int) by omega)
          have q2 := eq_true (show (q : Int) < (xs.length : Int) by have := HL.out; omega)
          have q3 := eq_true (show (q : Int) < (10 : Int) by omega)
          have q4 := eq_true c4
          have q5 := eq_true (show q < xs.length by have := HL.out; omega)
          obtain ⟨hx, hf⟩ := HF.out.cell (q : Int) (of_eq_true p2) (of_eq_true q2)
          rw [Int.toNat_natCast] at hx hf
          have C4 := uD c4
          clear c4
          go_wp2
          go_roundg (10 - (q + 1))
          case measure => have := HQ.out; have := C4.out; omega
          case rel => exact ⟨q + 1, _, rfl, by have := C4.out; unfold wrap64; simp; omega, rfl, ⟨by have := C4.out; omega, Nat.le_refl _⟩, ⟨by rw [HN.out]; exact (impl_Candidates.num_next xs q (by have := HL.out; have := C4.out; omega)).symm⟩⟩
        · obtain rfl : q = 10 := by have := HQ.out; omega
          obtain rfl := HN.out
          clear HN HQ hcut c4
          by_cases c5 : x.toList = (strOfNums xs).toList
          · have b5 : (x.toList == (strOfNums xs).toList) = true := beq_iff_eq.mpr c5
            have b6 : (x.toList != (strOfNums xs).toList) = false := bne_eq_false_iff_eq.mpr c5
            have hlf := HLF.out
            rw [if_pos c5] at hlf
            by_cases c6 : o.length < 5864062014805
            · skip
              rw [if_pos c6] at hlf
              obtain rfl := Option.some.inj hlf
              have LM := uD c6
              clear hlf HLF c5 c6
              go_wp2_with (first | ((with_reducible refine gate_callee (f := 50) rfl ?_); refine gl (some 59) Tryd.func50 #[.int .i64 (impl_Candidates.num (xs.take 10))] ?_; (with_reducible refine (impl_tagOf.calls _ t1 t2 t3 _ A1.out).mono ?_); rintro e w49 ⟨rfl, hb⟩; refine ⟨_, rfl, ?_⟩; replace HR := uD (Kd.R_below (pr HR) hb); replace HF := uD (HF.out.below hb); replace BK := uD (blk_below (pk BK) hb); replace HB := uD (uO (pb HB) hb); clear hb) | ((with_reducible refine gate_dst (N := 10) rfl ?_); refine bx 10 #[.int .i64 0, .int .i64 0, .int .i64 0] 25 ?_; intro gt hg w50 hbox hb; have NG := uD (show g ≠ gt by rw [hg]; exact Nat.ne_of_lt HF.out.lt); have NB := uD (show b ≠ gt by rw [hg]; exact Nat.ne_of_lt (blk_lt (pk BK))); have GT := uD (show w0.heap.size ≤ gt by rw [hg]; exact uN (pb HB)); replace HR := uD (Kd.R_below (Kd.R_elderB (pr HR) gt (Nat.le_of_eq hg.symm)) hb); replace HF := uD (HF.out.below hb); replace BK := uD (blk_below (pk BK) hb); have BT := uD (hbox); replace HB := uD (uO (pb HB) hb); clear hb hbox hg; obtain ⟨hcz0, hcz1, hcz2, hfz0, hfz1, hfz2⟩ := cz3 BT))
              have n0_ : Aside0 (Kd.R k25 25 (((w50.setCell ⟨gt, 0, none⟩ (.int .i64 t1)).setCell ⟨gt, 1, none⟩ (.int .i64 t2)).setCell ⟨gt, 2, none⟩ (.int .i64 t3)) w0.heap.size (fun k_ => (k_ ≠ g ∧ k_ ≠ b) ∧ k_ ≠ gt) v o) := ⟨uV (p := ⟨gt, 2, none⟩) (uV (p := ⟨gt, 1, none⟩) (uV (p := ⟨gt, 0, none⟩) HR.out (fun _ hk => hk.2) (.int .i64 t1)) (fun _ hk => hk.2) (.int .i64 t2)) (fun _ hk => hk.2) (.int .i64 t3)⟩
              have n1_ : Aside0 (Fb 5 (((w50.setCell ⟨gt, 0, none⟩ (.int .i64 t1)).setCell ⟨gt, 1, none⟩ (.int .i64 t2)).setCell ⟨gt, 2, none⟩ (.int .i64 t3)) g xs) := ⟨((HF.out.far (p := ⟨gt, 0, none⟩) NG.out _).far (p := ⟨gt, 1, none⟩) NG.out _).far (p := ⟨gt, 2, none⟩) NG.out _⟩
              have n2_ : Aside0 ((((w50.setCell ⟨gt, 0, none⟩ (.int .i64 t1)).setCell ⟨gt, 1, none⟩ (.int .i64 t2)).setCell ⟨gt, 2, none⟩ (.int .i64 t3)).heap[gt]? = some (.cells #[.int .i64 t1, .int .i64 t2, .int .i64 t3] 25 (0, 0))) := ⟨by refine uP (cs := #[.int .i64 t1, .int .i64 t2, .int .i64 0]) ?_ 2 _ rfl; refine uP (cs := #[.int .i64 t1, .int .i64 0, .int .i64 0]) ?_ 1 _ rfl; refine uP (cs := #[.int .i64 0, .int .i64 0, .int .i64 0]) ?_ 0 _ rfl; exact BT.out⟩
              have n3_ : Aside0 ((((w50.setCell ⟨gt, 0, none⟩ (.int .i64 t1)).setCell ⟨gt, 1, none⟩ (.int .i64 t2)).setCell ⟨gt, 2, none⟩ (.int .i64 t3)).heap[b]? = some (.cells #[v] 32 (0, 0))) := ⟨blk_far (p := ⟨gt, 2, none⟩) (blk_far (p := ⟨gt, 1, none⟩) (blk_far (p := ⟨gt, 0, none⟩) BK.out NB.out _) NB.out _) NB.out _⟩
              have n4_ : Aside0 (Below w0.heap.size w0 (((w50.setCell ⟨gt, 0, none⟩ (.int .i64 t1)).setCell ⟨gt, 1, none⟩ (.int .i64 t2)).setCell ⟨gt, 2, none⟩ (.int .i64 t3))) := ⟨uM (uM (uM HB.out GT.out) GT.out) GT.out⟩
              generalize (((w50.setCell ⟨gt, 0, none⟩ (.int .i64 t1)).setCell ⟨gt, 1, none⟩ (.int .i64 t2)).setCell ⟨gt, 2, none⟩ (.int .i64 t3)) = w52 at n0_ n1_ n2_ n3_ n4_ ⊢
              clear HR HF BK BT HB hcz0 hcz1 hcz2 hfz0 hfz1 hfz2
              have HR := uD (uT n0_.out)
              have HF := uD (n1_.out.drew)
              have BT := uD (uJ n2_.out)
              have BK := uD (uJ n3_.out)
              have HB := uD (uK n4_.out)
              clear n0_ n1_ n2_ n3_ n4_
              refine start_ (n := 5) (S := fun w' => w'.cell? ⟨gt, 0, none⟩ = some (.int .i64 t1) ∧ w'.cell? ⟨gt, 1, none⟩ = some (.int .i64 t2) ∧ w'.cell? ⟨gt, 2, none⟩ = some (.int .i64 t3) ∧ (convert 37 9 (.slice (some ⟨g, 0, none⟩) xs.length c)).run Tryd.prog w' = .ok (.string (strOfNums xs)) w') (ds := []) #[F,F,F,F,F] (by kernel_rfl) rfl rfl ⟨(uF BT.out 0).trans rfl, (uF BT.out 1).trans rfl, (uF BT.out 2).trans rfl, Fb.string Tryd.underlying37 Tryd.underlying5 Tryd.underlying9 HF.out c⟩ (fun hHeld => ?_)
              generalize w52.drew = w53 at HR HF BT BK HB hHeld ⊢
              refine ub (i := 2) (N := some 62) (v := ?_) (a' := ?_) #[F,F,T,F,F] rfl rfl (by kernel_rfl) (fun _ _ _ h => h) (Or.inl ⟨by rfl, ?_⟩) ?_ ?_
              rotate_left;(intro w';go_simp;with_reducible rfl);rotate_left;(simp only [uc,uA,uB,uC,uZ,ua];rfl)
              refine take_ (i := 3) (N := some 63) (v := ?_) (a' := ?_) #[F,F,T,T,F] rfl rfl (by kernel_rfl) (fun _ _ _ h => h) (Or.inl ⟨by rfl, ?_⟩) hHeld ?_ ?_
              rotate_left;(rintro w' ⟨s0, s1, s2, s3⟩;go_simp;with_reducible rfl);rotate_left;(simp only [uc,uA,uB,uC,uZ,ua];rfl)
              refine take_ (i := 0) (N := some 60) (v := ?_) (a' := ?_) #[T,F,T,T,F] rfl rfl (by kernel_rfl) (fun _ _ _ h => h) (Or.inl ⟨by rfl, ?_⟩) hHeld ?_ ?_
              rotate_left;(rintro w' ⟨s0, s1, s2, s3⟩;go_simp;with_reducible rfl);rotate_left;(simp only [uc,uA,uB,uC,uZ,ua];rfl)
              refine one_ (i := 1) (N := some 61) #[T,T,T,T,F] rfl rfl (by kernel_rfl) (by decide) (fun K hK => ?_)
              refine goes_ Tryd.func14 (by kernel_rfl) rfl #[.agg #[.int .i64 t1, .int .i64 t2, .int .i64 t3]] (by rfl) rfl rfl (by (try simp only [List.map_toArray, List.map_cons, List.map_nil]); first | done | rfl) ?_
              with_reducible refine (impl_FormatTag.calls k t1 t2 t3 x _ (tb11 HT HB.out) A2.out).mono ?_
              rintro e w54 ⟨rfl, hb⟩
              refine ⟨_, rfl, ?_⟩
              replace HR := uD (Kd.R_below HR.out hb)
              replace HF := uD (HF.out.below hb)
              replace BT := uD (blk_below BT.out hb)
              replace BK := uD (blk_below BK.out hb)
              replace HB := uD (uO HB.out hb)
              clear hb hHeld
              refine hK.out _ _ ⟨(uF BT.out 0).trans rfl, (uF BT.out 1).trans rfl, (uF BT.out 2).trans rfl, Fb.string Tryd.underlying37 Tryd.underlying5 Tryd.underlying9 HF.out c⟩ (fun hHeld => ?_)
              clear hK K
              refine norm_ (a' := ?_) ?_ ?_
              rotate_left
              · show uc _ (some 61) _ = _
                simp only [uc, uA, uB, uC, uZ, ua]
                rfl
              refine ub (i := 4) (N := some 64) (v := ?_) (a' := ?_) #[T,T,T,T,T] rfl rfl (by kernel_rfl) (fun _ _ _ h => h) (Or.inl ⟨by rfl, ?_⟩) ?_ ?_
              rotate_left;(intro w';go_simp;with_reducible rfl);rotate_left;(simp only [uc,uA,uB,uC,uZ,ua];rfl)
              refine done_ (by kernel_rfl) ?_
              clear hHeld
              try go_wp2
              have HR := uD (uT HR.out)
              have HF := uD (HF.out.drew)
              have BT := uD (uJ BT.out)
              have BK := uD (uJ BK.out)
              have HB := uD (uK HB.out)
              refine start_ (n := 9) (S := fun w' => w'.cell? ⟨gt, 0, none⟩ = some (.int .i64 t1) ∧ w'.cell? ⟨gt, 1, none⟩ = some (.int .i64 t2) ∧ w'.cell? ⟨gt, 2, none⟩ = some (.int .i64 t3) ∧ w'.cell? ⟨b, 0, none⟩ = some v) (ds := [6, 8]) #[F,F,F,F,F,F,F,F,F] (by kernel_rfl) rfl rfl ⟨(uF BT.out 0).trans rfl, (uF BT.out 1).trans rfl, (uF BT.out 2).trans rfl, (uF BK.out 0).trans rfl⟩ (fun hHeld => ?_)
              generalize w54.drew = w55 at HR HF BT BK HB hHeld ⊢
              refine ub (i := 0) (N := some 65) (v := ?_) (a' := ?_) #[T,F,F,F,F,F,F,F,F] rfl rfl (by kernel_rfl) (fun _ _ _ h => h) (Or.inl ⟨by rfl, ?_⟩) ?_ ?_
              rotate_left;(intro w';go_simp;with_reducible rfl);rotate_left;(simp only [uc,uA,uB,uC,uZ,ua];rfl)
              refine ub (i := 1) (N := some 66) (v := ?_) (a' := ?_) #[T,T,F,F,F,F,F,F,F] rfl rfl (by kernel_rfl) (fun _ _ _ h => h) (Or.inl ⟨by rfl, ?_⟩) ?_ ?_
              rotate_left;(intro w';go_simp;with_reducible rfl);rotate_left;(simp only [uc,uA,uB,uC,uZ,ua];rfl)
              refine ub (i := 2) (N := some 67) (v := ?_) (a' := ?_) #[T,T,T,F,F,F,F,F,F] rfl rfl (by kernel_rfl) (fun _ _ _ h => h) (Or.inl ⟨by rfl, ?_⟩) ?_ ?_
              rotate_left;(intro w';go_simp;with_reducible rfl);rotate_left;(simp only [uc,uA,uB,uC,uZ,ua];rfl)
              refine take_ (i := 3) (N := some 68) (v := ?_) (a' := ?_) #[T,T,T,T,F,F,F,F,F] rfl rfl (by kernel_rfl) (fun _ _ _ h => h) (Or.inl ⟨by rfl, ?_⟩) hHeld ?_ ?_
              rotate_left;(rintro w' ⟨s0, s1, s2, s3⟩;go_simp;with_reducible rfl);rotate_left;(simp only [uc,uA,uB,uC,uZ,ua];rfl)
              refine take_ (i := 4) (N := some 69) (v := ?_) (a' := ?_) #[T,T,T,T,T,F,F,F,F] rfl rfl (by kernel_rfl) (fun _ _ _ h => h) (Or.inl ⟨by rfl, ?_⟩) hHeld ?_ ?_
              rotate_left;(rintro w' ⟨s0, s1, s2, s3⟩;go_simp;with_reducible rfl);rotate_left;(simp only [uc,uA,uB,uC,uZ,ua];rfl)
              refine one_ (i := 5) (N := some 70) #[T,T,T,T,T,T,F,F,F] rfl rfl (by kernel_rfl) (by decide) (fun K hK => ?_)
              refine value_ (w1 := ?_) (v := ?_) (by rfl) rfl ?_ ?_
              rotate_left 2
              · go_simp
                constructor
                · rfl
                · rfl
              refine hK.out _ _ ⟨(uF (uG BT.out _) 0).trans rfl, (uF (uG BT.out _) 1).trans rfl, (uF (uG BT.out _) 2).trans rfl, (uF (uG BK.out _) 0).trans rfl⟩ (fun hHeld => ?_)
              clear hK K
              refine norm_ (a' := ?_) ?_ ?_
              rotate_left
              · show uc _ (some 70) _ = _
                simp only [uc, uA, uB, uC, uZ, ua]
                rfl
              refine last_ (i := 6) (N := some 71) #[T,T,T,T,T,T,T,F,F] rfl rfl (by kernel_rfl) (by decide) (fun K hK => ?_)
              refine Kd.R_append_step k25 w0.heap.size (by rfl) (.tmp 68) (.tmp 70) 32 25 (.agg #[(.int .i64 0), (.int .i64 0), (.int .i64 0)]) 24 rfl Tryd.underlying32 impl_Candidates.info rfl (by decide) (by omega) v o (⟨t1, t2, t3⟩ : S25) [.int .i64 t1, .int .i64 t2, .int .i64 t3] (fun k_ => (k_ ≠ g ∧ k_ ≠ b) ∧ k_ ≠ gt) (fun _ => False) rfl rfl ?aP (fun _ hk => hk.elim) ?aF ?aO HB.out ?aS ?aL ?_
              (case aP => exact k25_mkM _ _ _ (⟨t1, t2, t3⟩ : S25))
              (case aF => exact fun k_ hk => ⟨⟨Nat.ne_of_gt (Nat.lt_of_lt_of_le HF.out.lt hk), Nat.ne_of_gt (Nat.lt_of_lt_of_le (blk_lt BK.out) hk)⟩, Nat.ne_of_gt (Nat.lt_of_lt_of_le (blk_lt BT.out) hk)⟩)
              (case aO => exact HR.out)
              (case aS => exact uN HB.out)
              (case aL => have := LM.out; omega)
              intro v1 w56 ho hb hg hat
              have NEr : some b ≠ v.ownBlock := Kd.R_away HR.out (fun _ hk => hk.1.2)
              have NEg : some g ≠ v.ownBlock := Kd.R_away HR.out (fun _ hk => hk.1.1)
              replace BK := uD (blk_grown BK.out hg NEr)
              replace HF := uD (HF.out.grown hg NEg)
              replace HR := uD (ho)
              replace HB := uD (hb)
              clear ho hb hg hat BT hHeld NEr NEg
              refine hK.out _ _ ?_
              clear hK K
              refine norm_ (a' := ?_) ?_ ?_
              rotate_left
              · show uc _ (some 71) _ = _
                simp only [uc, uA, uB, uC, uZ, ua]
                rfl
              refine ub (i := 7) (N := some 72) (v := ?_) (a' := ?_) #[T,T,T,T,T,T,T,T,F] rfl rfl (by kernel_rfl) (fun _ _ _ h => h) (Or.inl ⟨by rfl, ?_⟩) ?_ ?_
              rotate_left;(intro w';go_simp;with_reducible rfl);rotate_left;(simp only [uc,uA,uB,uC,uZ,ua];rfl)
              refine last_ (i := 8) (N := none) #[T,T,T,T,T,T,T,T,T] rfl rfl (by kernel_rfl) (by decide) (fun K hK => ?_)
              obtain ⟨Av, cv, ev⟩ := Kd.R_slice HR.out
              subst ev
              have hcb : w56.cell? ⟨b, 0, none⟩ = some v := (uF BK.out 0).trans rfl
              have hfb : w56.frozen? ⟨b, 0, none⟩ = false := blk_frozen BK.out 0
              refine skip_ (w1 := ?_) (by rfl) rfl ?_ ?_
              rotate_left
              · go_simp
                rfl
              refine hK.out _ _ ?_
              clear hK K
              refine done_ (by kernel_rfl) ?_
              try go_wp2
              first | go_end0 | ((try simp only [Exit.inBlock, Exit.then]); refine bodyPost_ret (results_none rfl _ _ _) rfl ?_)
              have hr := HR.out
              rw [show (o ++ [(⟨t1, t2, t3⟩ : S25)]).length = o.length + 1 by simp] at hr
              exact ⟨rfl, HF.out.far (p := ⟨b, 0, none⟩) NE.out _, ⟨_, blk_put (cs := #[v]) BK.out 0 _ rfl, uV (p := ⟨b, 0, none⟩) (uX hr (fun _ hk => hk.1)) (fun _ hk => hk.2) _⟩, uM HB.out GB.out⟩
            · rw [if_neg c6] at hlf
              cases hlf
          · have b5 : (x.toList == (strOfNums xs).toList) = false := beq_eq_false_iff_ne.mpr c5
            have b6 : (x.toList != (strOfNums xs).toList) = true := bne_iff_ne.mpr c5
            have hlf := HLF.out
            rw [if_neg c5] at hlf
            obtain rfl := Option.some.inj hlf
            clear hlf HLF c5
            go_wp2_with (first | ((with_reducible refine gate_callee (f := 50) rfl ?_); refine gl (some 59) Tryd.func50 #[.int .i64 (impl_Candidates.num (xs.take 10))] ?_; (with_reducible refine (impl_tagOf.calls _ t1 t2 t3 _ A1.out).mono ?_); rintro e w49 ⟨rfl, hb⟩; refine ⟨_, rfl, ?_⟩; replace HR := uD (Kd.R_below (pr HR) hb); replace HF := uD (HF.out.below hb); replace BK := uD (blk_below (pk BK) hb); replace HB := uD (uO (pb HB) hb); clear hb) | ((with_reducible refine gate_dst (N := 10) rfl ?_); refine bx 10 #[.int .i64 0, .int .i64 0, .int .i64 0] 25 ?_; intro gt hg w50 hbox hb; have NG := uD (show g ≠ gt by rw [hg]; exact Nat.ne_of_lt HF.out.lt); have NB := uD (show b ≠ gt by rw [hg]; exact Nat.ne_of_lt (blk_lt (pk BK))); have GT := uD (show w0.heap.size ≤ gt by rw [hg]; exact uN (pb HB)); replace HR := uD (Kd.R_below (Kd.R_elderB (pr HR) gt (Nat.le_of_eq hg.symm)) hb); replace HF := uD (HF.out.below hb); replace BK := uD (blk_below (pk BK) hb); have BT := uD (hbox); replace HB := uD (uO (pb HB) hb); clear hb hbox hg; obtain ⟨hcz0, hcz1, hcz2, hfz0, hfz1, hfz2⟩ := cz3 BT))
            have n0_ : Aside0 (Kd.R k25 25 (((w50.setCell ⟨gt, 0, none⟩ (.int .i64 t1)).setCell ⟨gt, 1, none⟩ (.int .i64 t2)).setCell ⟨gt, 2, none⟩ (.int .i64 t3)) w0.heap.size (fun k_ => (k_ ≠ g ∧ k_ ≠ b) ∧ k_ ≠ gt) v o) := ⟨uV (p := ⟨gt, 2, none⟩) (uV (p := ⟨gt, 1, none⟩) (uV (p := ⟨gt, 0, none⟩) HR.out (fun _ hk => hk.2) (.int .i64 t1)) (fun _ hk => hk.2) (.int .i64 t2)) (fun _ hk => hk.2) (.int .i64 t3)⟩
            have n1_ : Aside0 (Fb 5 (((w50.setCell ⟨gt, 0, none⟩ (.int .i64 t1)).setCell ⟨gt, 1, none⟩ (.int .i64 t2)).setCell ⟨gt, 2, none⟩ (.int .i64 t3)) g xs) := ⟨((HF.out.far (p := ⟨gt, 0, none⟩) NG.out _).far (p := ⟨gt, 1, none⟩) NG.out _).far (p := ⟨gt, 2, none⟩) NG.out _⟩
            have n2_ : Aside0 ((((w50.setCell ⟨gt, 0, none⟩ (.int .i64 t1)).setCell ⟨gt, 1, none⟩ (.int .i64 t2)).setCell ⟨gt, 2, none⟩ (.int .i64 t3)).heap[gt]? = some (.cells #[.int .i64 t1, .int .i64 t2, .int .i64 t3] 25 (0, 0))) := ⟨by refine uP (cs := #[.int .i64 t1, .int .i64 t2, .int .i64 0]) ?_ 2 _ rfl; refine uP (cs := #[.int .i64 t1, .int .i64 0, .int .i64 0]) ?_ 1 _ rfl; refine uP (cs := #[.int .i64 0, .int .i64 0, .int .i64 0]) ?_ 0 _ rfl; exact BT.out⟩
            have n3_ : Aside0 ((((w50.setCell ⟨gt, 0, none⟩ (.int .i64 t1)).setCell ⟨gt, 1, none⟩ (.int .i64 t2)).setCell ⟨gt, 2, none⟩ (.int .i64 t3)).heap[b]? = some (.cells #[v] 32 (0, 0))) := ⟨blk_far (p := ⟨gt, 2, none⟩) (blk_far (p := ⟨gt, 1, none⟩) (blk_far (p := ⟨gt, 0, none⟩) BK.out NB.out _) NB.out _) NB.out _⟩
            have n4_ : Aside0 (Below w0.heap.size w0 (((w50.setCell ⟨gt, 0, none⟩ (.int .i64 t1)).setCell ⟨gt, 1, none⟩ (.int .i64 t2)).setCell ⟨gt, 2, none⟩ (.int .i64 t3))) := ⟨uM (uM (uM HB.out GT.out) GT.out) GT.out⟩
            generalize (((w50.setCell ⟨gt, 0, none⟩ (.int .i64 t1)).setCell ⟨gt, 1, none⟩ (.int .i64 t2)).setCell ⟨gt, 2, none⟩ (.int .i64 t3)) = w52 at n0_ n1_ n2_ n3_ n4_ ⊢
            clear HR HF BK BT HB hcz0 hcz1 hcz2 hfz0 hfz1 hfz2
            have HR := uD (uT n0_.out)
            have HF := uD (n1_.out.drew)
            have BT := uD (uJ n2_.out)
            have BK := uD (uJ n3_.out)
            have HB := uD (uK n4_.out)
            clear n0_ n1_ n2_ n3_ n4_
            refine start_ (n := 5) (S := fun w' => w'.cell? ⟨gt, 0, none⟩ = some (.int .i64 t1) ∧ w'.cell? ⟨gt, 1, none⟩ = some (.int .i64 t2) ∧ w'.cell? ⟨gt, 2, none⟩ = some (.int .i64 t3) ∧ (convert 37 9 (.slice (some ⟨g, 0, none⟩) xs.length c)).run Tryd.prog w' = .ok (.string (strOfNums xs)) w') (ds := []) #[F,F,F,F,F] (by kernel_rfl) rfl rfl ⟨(uF BT.out 0).trans rfl, (uF BT.out 1).trans rfl, (uF BT.out 2).trans rfl, Fb.string Tryd.underlying37 Tryd.underlying5 Tryd.underlying9 HF.out c⟩ (fun hHeld => ?_)
            generalize w52.drew = w53 at HR HF BT BK HB hHeld ⊢
            refine ub (i := 2) (N := some 62) (v := ?_) (a' := ?_) #[F,F,T,F,F] rfl rfl (by kernel_rfl) (fun _ _ _ h => h) (Or.inl ⟨by rfl, ?_⟩) ?_ ?_
            rotate_left;(intro w';go_simp;with_reducible rfl);rotate_left;(simp only [uc,uA,uB,uC,uZ,ua];rfl)
            refine take_ (i := 3) (N := some 63) (v := ?_) (a' := ?_) #[F,F,T,T,F] rfl rfl (by kernel_rfl) (fun _ _ _ h => h) (Or.inl ⟨by rfl, ?_⟩) hHeld ?_ ?_
            rotate_left;(rintro w' ⟨s0, s1, s2, s3⟩;go_simp;with_reducible rfl);rotate_left;(simp only [uc,uA,uB,uC,uZ,ua];rfl)
            refine take_ (i := 0) (N := some 60) (v := ?_) (a' := ?_) #[T,F,T,T,F] rfl rfl (by kernel_rfl) (fun _ _ _ h => h) (Or.inl ⟨by rfl, ?_⟩) hHeld ?_ ?_
            rotate_left;(rintro w' ⟨s0, s1, s2, s3⟩;go_simp;with_reducible rfl);rotate_left;(simp only [uc,uA,uB,uC,uZ,ua];rfl)
            refine one_ (i := 1) (N := some 61) #[T,T,T,T,F] rfl rfl (by kernel_rfl) (by decide) (fun K hK => ?_)
            refine goes_ Tryd.func14 (by kernel_rfl) rfl #[.agg #[.int .i64 t1, .int .i64 t2, .int .i64 t3]] (by rfl) rfl rfl (by (try simp only [List.map_toArray, List.map_cons, List.map_nil]); first | done | rfl) ?_
            with_reducible refine (impl_FormatTag.calls k t1 t2 t3 x _ (tb11 HT HB.out) A2.out).mono ?_
            rintro e w54 ⟨rfl, hb⟩
            refine ⟨_, rfl, ?_⟩
            replace HR := uD (Kd.R_below HR.out hb)
            replace HF := uD (HF.out.below hb)
            replace BT := uD (blk_below BT.out hb)
            replace BK := uD (blk_below BK.out hb)
            replace HB := uD (uO HB.out hb)
            clear hb hHeld
            refine hK.out _ _ ⟨(uF BT.out 0).trans rfl, (uF BT.out 1).trans rfl, (uF BT.out 2).trans rfl, Fb.string Tryd.underlying37 Tryd.underlying5 Tryd.underlying9 HF.out c⟩ (fun hHeld => ?_)
            clear hK K
            refine norm_ (a' := ?_) ?_ ?_
            rotate_left
            · show uc _ (some 61) _ = _
              simp only [uc, uA, uB, uC, uZ, ua]
              rfl
            refine ub (i := 4) (N := some 64) (v := ?_) (a' := ?_) #[T,T,T,T,T] rfl rfl (by kernel_rfl) (fun _ _ _ h => h) (Or.inl ⟨by rfl, ?_⟩) ?_ ?_
            rotate_left;(intro w';go_simp;with_reducible rfl);rotate_left;(simp only [uc,uA,uB,uC,uZ,ua];rfl)
            refine done_ (by kernel_rfl) ?_
            try go_wp2
            first | go_end0 | ((try simp only [Exit.inBlock, Exit.then]); refine bodyPost_ret (results_none rfl _ _ _) rfl ?_)
            exact ⟨rfl, HF.out, ⟨v, BK.out, uX HR.out (fun _ hk => hk.1)⟩, HB.out⟩
/-- The count of unknown bytes of a text, none if a byte is no digit; l: the bytes from the index i on, u: those before. -/
def impl_Candidates.scan : List Int → Nat → Int → Option Int
  | [], _, u => some u
  | x :: l, i, u => if i = 10 then impl_Candidates.scan l (i + 1) u else if x = 63 then impl_Candidates.scan l (i + 1) (u + 1) else if x < 48 then none else if x > 57 then none else impl_Candidates.scan l (i + 1) u
def impl_Candidates.f (k : Nat) (a0 : ByteArray) : Option (List S25 × Bool) :=
  if (a0.size : Int) = 12 then (if bt a0 10 = 45 then (match impl_Candidates.scan (numsOf a0) 0 0 with
    | none => some ([], false)
    | some u => if u > 3 then some ([], false) else (impl_Candidates.fl k [] (numsOf a0) []).bind fun o => some (o, true)) else some ([], false)) else some ([], false)
theorem impl_Candidates.mono : ∀ a0 k, LeO (impl_Candidates.f k a0) (impl_Candidates.f (k + 1) a0) := by
  intro a0 k
  unfold impl_Candidates.f
  refine LeO.ite (LeO.ite ?_ (LeO.refl _)) (LeO.refl _)
  cases impl_Candidates.scan (numsOf a0) 0 0 with
  | none => exact LeO.refl _
  | some u => exact LeO.ite (LeO.refl _) (LeO.bind (impl_Candidates.fl_mono k _ _ _) fun _ => LeO.refl _)
theorem impl_Candidates.nums_length (s : ByteArray) : (numsOf s).length = s.size := by simp [numsOf]
theorem impl_Candidates.nums_at (s : ByteArray) (i : Nat) (h : i < (numsOf s).length) : (numsOf s)[i] = bt s (i : Int) := by
  have h2 : i < s.size := by rwa [impl_Candidates.nums_length] at h
  unfold bt
  rw [Int.toNat_natCast, dif_pos h2]
  simp [numsOf]
  rfl
theorem impl_Candidates.scan_at {s : ByteArray} {i : Nat} {u : Int} (h : i < s.size) : impl_Candidates.scan ((numsOf s).drop i) i u = if i = 10 then impl_Candidates.scan ((numsOf s).drop (i + 1)) (i + 1) u else if bt s (i : Int) = 63 then impl_Candidates.scan ((numsOf s).drop (i + 1)) (i + 1) (u + 1) else if bt s (i : Int) < 48 then none else if bt s (i : Int) > 57 then none else impl_Candidates.scan ((numsOf s).drop (i + 1)) (i + 1) u := by
  have h2 : i < (numsOf s).length := by rwa [impl_Candidates.nums_length]
  rw [List.drop_eq_getElem_cons h2, impl_Candidates.scan, impl_Candidates.nums_at]
theorem impl_Candidates.filled0 {k : Nat} {w0 : World} {g b c : Nat} {xs : List Int} {o' : List S25} {w : World} {a0 : ByteArray} (GG : Aside0 (w0.heap.size ≤ g)) (GB : Aside0 (w0.heap.size ≤ b)) (NE : Aside0 (g ≠ b)) (HT : Aside0 (Tab1 Tryd.prog w0)) (HC : Aside0 (xs.length ≤ c)) (XS : Aside0 (xs = numsOf a0)) (C1 : Aside0 ((a0.size : Int) = 12))
    (HF : Aside0 (Fb 5 w g xs)) (BK : Aside0 (w.heap[b]? = some (.cells #[.slice none 0 0] 32 (0, 0)))) (HB : Aside0 (Below w0.heap.size w0 w)) (HO : Aside0 (impl_Candidates.fl k [] (numsOf a0) [] = some o')) :
    Calls Tryd.prog 46 #[.slice (some ⟨g, 0, none⟩) xs.length c, .int .i64 0, .pointer (some ⟨b, 0, none⟩)] w fun e w' => e = .returned (.tuple #[]) ∧ Fb 5 w' g xs ∧ (∃ v', w'.heap[b]? = some (.cells #[v'] 32 (0, 0)) ∧ Kd.R k25 25 w' w0.heap.size (fun k_ => k_ ≠ g ∧ k_ ≠ b) v' o') ∧ Below w0.heap.size w0 w' := by
  have hx := XS.out
  have hl : xs.length = 12 := by rw [hx, impl_Candidates.nums_length]; have := C1.out; omega
  have hc := HC.out
  exact impl_Candidates.filled k w0 g b c GG.out GB.out NE.out HT.out (by omega) 12 xs 0 [] o' _ _ hl (by omega) rfl HF.out BK.out (Kd.R_nil _ _ _ _ _) HB.out (by rw [hx]; exact HO.out)
set_option maxHeartbeats 16000000 in
set_option maxRecDepth 100000 in
theorem impl_Candidates.calls (k : Nat) (a0 : ByteArray) (r1 : List S25) (r2 : Bool) (w : World) (htab : Tab1 Tryd.prog w) (h : impl_Candidates.f k a0 = some (r1, r2)) :
    Calls Tryd.prog 21 #[.string a0] w fun e w' => ∃ v0_ : Value, e = .returned (.tuple #[v0_, .bool r2]) ∧ Kd.R k25 25 w' w.heap.size (fun _ => True) v0_ r1 ∧ Below w.heap.size w w' := by
  have HT := uD htab
  unfold impl_Candidates.f at h
  clear htab
  have p10 : 0 ≤ (10 : Int) := by omega
  have hx10 : ∀ h : 10 < a0.size, ((a0[10]'h).toNat : Int) = bt a0 10 := bt_at a0 10
  by_cases c1 : (a0.size : Int) = 12
  · rw [if_pos c1] at h
    have b1 : ((a0.size : Int) == 12) = true := beq_iff_eq.mpr c1
    have b2 : ((a0.size : Int) != 12) = false := bne_eq_false_iff_eq.mpr c1
    have q10 := eq_true (show 10 < a0.size by omega)
    have qi10 := eq_true (show 10 < (a0.size : Int) by omega)
    have C1 := uD c1
    clear c1
    by_cases c2 : bt a0 10 = 45
    · rw [if_pos c2] at h
      have b3 : (bt a0 10 == 45) = true := beq_iff_eq.mpr c2
      have b4 : (bt a0 10 != 45) = false := bne_eq_false_iff_eq.mpr c2
      obtain ⟨R, hR⟩ : ∃ R, impl_Candidates.scan (numsOf a0) 0 0 = R := ⟨_, rfl⟩
      rw [hR] at h
      have H := uD h
      have HS := uD hR
      clear c2 h hR
      go_enter Tryd.func21, Tryd.ntmps21
      go_wp2
      go_loopg [4, 5] 12 (fun gg v4 v5 wr => ∃ (i : Nat) (z u : Int), v4 = .int .i64 u ∧ v5 = .int .i64 z ∧ wr = w ∧ Aside0 (z = (i : Int)) ∧ Aside0 (i ≤ 12 ∧ 12 - i ≤ gg) ∧ Aside0 (0 ≤ u ∧ u ≤ z) ∧ Aside0 (impl_Candidates.scan ((numsOf a0).drop i) i u = R))
      case atStart => exact ⟨0, 0, 0, rfl, rfl, rfl, ⟨rfl⟩, ⟨by omega, by omega⟩, ⟨by omega, by omega⟩, HS⟩
      case round =>
        obtain ⟨i, z, u, rfl, rfl, rfl, HZ, HI, HU, HSC⟩ := hrel
        clear b1 b2 b3 b4 hx10 q10 qi10 HS
        by_cases c3 : i < 12
        · have hsc := HSC.out
          rw [impl_Candidates.scan_at (by have := C1.out; omega), ← HZ.out] at hsc
          have p12 := eq_true (show 0 ≤ z by have := HZ.out; omega)
          have q12 := eq_true (show z < (a0.size : Int) by have := HZ.out; have := C1.out; omega)
          have b5 : decide (z < (a0.size : Int)) = true := decide_eq_true (of_eq_true q12)
          have hx12 := bt_at a0 z
          have C3 := uD c3
          have ez : wrap64 (z + 1) = z + 1 := by have := HZ.out; unfold wrap64; omega
          have eu : wrap64 (u + 1) = u + 1 := by have := HZ.out; have := HU.out; unfold wrap64; omega
          have EZ := uD ez
          have EU := uD eu
          clear c3 ez eu
          by_cases c4 : z = 10
          · have b6 : (z == 10) = true := beq_iff_eq.mpr c4
            have b7 : (z != 10) = false := bne_eq_false_iff_eq.mpr c4
            rw [if_pos (show i = 10 by have := HZ.out; omega)] at hsc
            have HSC2 := uD hsc
            clear HSC hsc
            by_cases c5 : bt a0 z = 63
            · have b8 : (bt a0 z == 63) = true := beq_iff_eq.mpr c5
              have b9 : (bt a0 z != 63) = false := bne_eq_false_iff_eq.mpr c5
              clear c4 c5
              go_wp2
              go_roundg (12 - (i + 1))
              case measure => have := HI.out; have := C3.out; omega
              case rel => exact ⟨i + 1, _, u, rfl, rfl, rfl, ⟨by rw [EZ.out, HZ.out]; omega⟩, ⟨C3.out, Nat.le_refl _⟩, ⟨HU.out.1, by rw [EZ.out]; have := HU.out.2; omega⟩, HSC2⟩
            · have b8 : (bt a0 z == 63) = false := beq_eq_false_iff_ne.mpr c5
              have b9 : (bt a0 z != 63) = true := bne_iff_ne.mpr c5
              clear c4 c5
              go_wp2
              go_roundg (12 - (i + 1))
              case measure => have := HI.out; have := C3.out; omega
              case rel => exact ⟨i + 1, _, u, rfl, rfl, rfl, ⟨by rw [EZ.out, HZ.out]; omega⟩, ⟨C3.out, Nat.le_refl _⟩, ⟨HU.out.1, by rw [EZ.out]; have := HU.out.2; omega⟩, HSC2⟩
          · have b6 : (z == 10) = false := beq_eq_false_iff_ne.mpr c4
            have b7 : (z != 10) = true := bne_iff_ne.mpr c4
            rw [if_neg (show ¬ i = 10 by have := HZ.out; omega)] at hsc
            by_cases c5 : bt a0 z = 63
            · have b8 : (bt a0 z == 63) = true := beq_iff_eq.mpr c5
              have b9 : (bt a0 z != 63) = false := bne_eq_false_iff_eq.mpr c5
              rw [if_pos c5] at hsc
              have HSC2 := uD hsc
              clear HSC hsc c4 c5
              go_wp2
              go_roundg (12 - (i + 1))
              case measure => have := HI.out; have := C3.out; omega
              case rel => exact ⟨i + 1, _, _, rfl, rfl, rfl, ⟨by rw [EZ.out, HZ.out]; omega⟩, ⟨C3.out, Nat.le_refl _⟩, ⟨by rw [EU.out]; have := HU.out; omega, by rw [EZ.out, EU.out]; have := HU.out.2; omega⟩, ⟨by rw [EU.out]; exact HSC2.out⟩⟩
            · have b8 : (bt a0 z == 63) = false := beq_eq_false_iff_ne.mpr c5
              have b9 : (bt a0 z != 63) = true := bne_iff_ne.mpr c5
              rw [if_neg c5] at hsc
              by_cases c6 : bt a0 z < 48
              · have b10 : decide (bt a0 z < 48) = true := decide_eq_true c6
                rw [if_pos c6] at hsc
                subst hsc
                have h1 := H.out
                simp only [Option.some.injEq, Prod.mk.injEq] at h1
                obtain ⟨rfl, rfl⟩ := h1
                clear HSC H c4 c5 c6
                go_wp2
                go_ret2
                exact ⟨_, rfl, Kd.R_nil _ _ _ _ _, Below.refl _ _⟩
              · have b10 : decide (bt a0 z < 48) = false := decide_eq_false c6
                rw [if_neg c6] at hsc
                by_cases c7 : bt a0 z > 57
                · have b11 : decide (57 < bt a0 z) = true := decide_eq_true c7
                  rw [if_pos c7] at hsc
                  subst hsc
                  have h1 := H.out
                  simp only [Option.some.injEq, Prod.mk.injEq] at h1
                  obtain ⟨rfl, rfl⟩ := h1
                  clear HSC H c4 c5 c6 c7
                  go_wp2
                  go_ret2
                  exact ⟨_, rfl, Kd.R_nil _ _ _ _ _, Below.refl _ _⟩
                · have b11 : decide (57 < bt a0 z) = false := decide_eq_false c7
                  rw [if_neg c7] at hsc
                  have HSC2 := uD hsc
                  clear HSC hsc c4 c5 c6 c7
                  go_wp2
                  go_roundg (12 - (i + 1))
                  case measure => have := HI.out; have := C3.out; omega
                  case rel => exact ⟨i + 1, _, u, rfl, rfl, rfl, ⟨by rw [EZ.out, HZ.out]; omega⟩, ⟨C3.out, Nat.le_refl _⟩, ⟨HU.out.1, by rw [EZ.out]; have := HU.out.2; omega⟩, HSC2⟩
        · have hi : i = 12 := by have := HI.out; omega
          have hsc := HSC.out
          rw [List.drop_eq_nil_of_le (by rw [impl_Candidates.nums_length]; have := C1.out; omega), impl_Candidates.scan] at hsc
          subst hsc
          have h1 := H.out
          simp only [] at h1
          have b5 : decide (z < (a0.size : Int)) = false := decide_eq_false (by have := HZ.out; have := C1.out; omega)
          clear H HSC hi c3
          by_cases c8 : u > 3
          · rw [if_pos c8] at h1
            have b6 : decide (3 < u) = true := decide_eq_true c8
            simp only [Option.some.injEq, Prod.mk.injEq] at h1
            obtain ⟨rfl, rfl⟩ := h1
            clear c8
            go_wp2
            go_ret2
            exact ⟨_, rfl, Kd.R_nil _ _ _ _ _, Below.refl _ _⟩
          · rw [if_neg c8] at h1
            have b6 : decide (3 < u) = false := decide_eq_false c8
            obtain ⟨o, ho, h2⟩ := Option.bind_eq_some_iff.mp h1
            simp only [Option.some.injEq, Prod.mk.injEq] at h2
            obtain ⟨rfl, rfl⟩ := h2
            have HO := uD ho
            clear c8 h1 ho
            obtain ⟨xs, hxs⟩ : ∃ xs, xs = numsOf a0 := ⟨_, rfl⟩
            have XS := uD hxs
            clear hxs
            have HB := uD (Below.refl wr.heap.size wr)
            go_wp2_with (first
              | ((with_reducible refine gate_dst (N := 6) rfl ?_); refine bx 6 #[.slice none 0 0] 32 ?_; intro b hg w50 hbox hb; have GB := uD (show wr.heap.size ≤ b by rw [hg]; exact Nat.le_refl _); have BK := uD (hbox); replace HB := uD (uO (pb HB) hb); clear hb hbox hg)
              | ((with_reducible refine gate_dst (N := 48) rfl ?_); refine Fb.conv (t := 5) a0 xs XS.out ?hg ?hr ?_; (case hg => rfl); (case hr => (have hcv_ := fun W => Go.Lib.run_convert_string_bytes (P := Tryd.prog) W 9 37 5 a0 Tryd.underlying9 Tryd.underlying37 Tryd.underlying5); first | (go_simp; done) | (go_simp; rfl)); intro g c w51 hg hcap hF hb; have GG := uD (show wr.heap.size ≤ g by rw [hg]; exact uN HB.out); have NE := uD (show g ≠ b by rw [hg]; exact Nat.ne_of_gt (blk_lt BK.out)); replace BK := uD (blk_below BK.out hb); replace HB := uD (uO (pb HB) hb); have HF := uD (hF); have HC := uD (hcap); clear hb hF hcap hg)
              | (go_at_call 46; refine (impl_Candidates.filled0 GG GB NE HT HC XS C1 HF BK HB HO).mono ?_; rintro e w52 ⟨rfl, hf2, ⟨v2, hb2, hr2⟩, hbw⟩; obtain ⟨Av, cv, rfl⟩ := Kd.R_slice hr2; have hc2 : w52.cell? ⟨b, 0, none⟩ = some (.slice Av o.length cv) := (blk_cell hb2 0).trans rfl))
            go_ret2
            exact ⟨_, rfl, uX hr2 (fun _ _ => trivial), hbw⟩
    · rw [if_neg c2] at h
      have b3 : (bt a0 10 == 45) = false := beq_eq_false_iff_ne.mpr c2
      have b4 : (bt a0 10 != 45) = true := bne_iff_ne.mpr c2
      simp only [Option.some.injEq, Prod.mk.injEq] at h
      obtain ⟨rfl, rfl⟩ := h
      clear c2
      go_enter Tryd.func21, Tryd.ntmps21
      go_wp2
      go_ret2
      exact ⟨_, rfl, Kd.R_nil _ _ _ _ _, Below.refl _ _⟩
  · rw [if_neg c1] at h
    have b1 : ((a0.size : Int) == 12) = false := beq_eq_false_iff_ne.mpr c1
    have b2 : ((a0.size : Int) != 12) = true := bne_iff_ne.mpr c1
    simp only [Option.some.injEq, Prod.mk.injEq] at h
    obtain ⟨rfl, rfl⟩ := h
    clear c1
    go_enter Tryd.func21, Tryd.ntmps21
    go_wp2
    go_ret2
    exact ⟨_, rfl, Kd.R_nil _ _ _ _ _, Below.refl _ _⟩

/-! ### impl_ParseTag: function 16 -/
def impl_ParseTag.f (k : Nat) (a0 : ByteArray) : Option (Int × Int × Int × Bool) := (impl_Candidates.f k a0).bind fun bt146 => (if bt146.2 = true then (if (bt146.1.length : Int) = 1 then (if 0 < (bt146.1.length : Int) then ((impl_FormatTag.f k ((rd_T25 bt146.1 0).f0) ((rd_T25 bt146.1 0).f1) ((rd_T25 bt146.1 0).f2)).bind fun t151 => (if t151.toList = a0.toList then (some ((rd_T25 bt146.1 0).f0, (rd_T25 bt146.1 0).f1, (rd_T25 bt146.1 0).f2, true)) else (some (0, 0, 0, false)))) else (none)) else (some (0, 0, 0, false))) else (some (0, 0, 0, false)))
theorem impl_ParseTag.mono : ∀ a0 k, LeO (impl_ParseTag.f k a0) (impl_ParseTag.f (k + 1) a0) := by
 intro a0 k
 unfold impl_ParseTag.f
 repeat' first
   | (with_reducible exact impl_Candidates.mono _ _)
   | (with_reducible exact impl_FormatTag.mono _ _ _ _)
   | (with_reducible exact LeO.refl _)
   | (with_reducible exact LeO.none _)
   | (with_reducible refine LeO.ite ?_ ?_)
   | (with_reducible refine LeO.bind ?_ (fun _ => ?_))
   | exact impl_Candidates.mono _ _
   | exact impl_FormatTag.mono _ _ _ _
   | exact LeO.none _
   | refine LeO.ite ?_ ?_
   | refine LeO.bind ?_ (fun _ => ?_)
set_option maxHeartbeats 8000000 in
set_option maxRecDepth 100000 in
theorem impl_ParseTag.calls (k : Nat) (a0 : ByteArray) (r1 : Int) (r2 : Int) (r3 : Int) (r4 : Bool) (w : World) (htab : Tab1 Tryd.prog w) (h : impl_ParseTag.f k a0 = some (r1, r2, r3, r4)) :
  Calls Tryd.prog 16 #[.string a0] w fun e w' => e = .returned (.tuple #[.agg #[.int .i64 r1, .int .i64 r2, .int .i64 r3], .bool r4]) ∧ Below w.heap.size w w' := by
 have hu25 := Tryd.underlying25
 have HB := uD (Below.refl w.heap.size w)
 have HTAB := uD htab
 clear htab
 have H : ((impl_Candidates.f k a0).bind fun bt146 => (if bt146.2 = true then (if (bt146.1.length : Int) = 1 then (if 0 < (bt146.1.length : Int) then ((impl_FormatTag.f k ((rd_T25 bt146.1 0).f0) ((rd_T25 bt146.1 0).f1) ((rd_T25 bt146.1 0).f2)).bind fun t151 => (if t151.toList = a0.toList then (some ((rd_T25 bt146.1 0).f0, (rd_T25 bt146.1 0).f1, (rd_T25 bt146.1 0).f2, true)) else (some (0, 0, 0, false)))) else (none)) else (some (0, 0, 0, false))) else (some (0, 0, 0, false)))) = some (r1, r2, r3, r4) := h
 clear h
 replace H := Option.bind_eq_some_iff.mp H
 obtain ⟨⟨t146, t147⟩, A20, H⟩ := H
 replace H : (if t147 = true then (if (t146.length : Int) = 1 then (if 0 < (t146.length : Int) then ((impl_FormatTag.f k ((rd_T25 t146 0).f0) ((rd_T25 t146 0).f1) ((rd_T25 t146 0).f2)).bind fun t151 => (if t151.toList = a0.toList then (some ((rd_T25 t146 0).f0, (rd_T25 t146 0).f1, (rd_T25 t146 0).f2, true)) else (some (0, 0, 0, false)))) else (none)) else (some (0, 0, 0, false))) else (some (0, 0, 0, false))) = some (r1, r2, r3, r4) := H
 have A2 := uD A20
 clear A20
 by_cases c3 : t147 = true
 ·subst c3
  have H1 : (if (t146.length : Int) = 1 then (if 0 < (t146.length : Int) then ((impl_FormatTag.f k ((rd_T25 t146 0).f0) ((rd_T25 t146 0).f1) ((rd_T25 t146 0).f2)).bind fun t151 => (if t151.toList = a0.toList then (some ((rd_T25 t146 0).f0, (rd_T25 t146 0).f1, (rd_T25 t146 0).f2, true)) else (some (0, 0, 0, false)))) else (none)) else (some (0, 0, 0, false))) = some (r1, r2, r3, r4) := by rw [if_pos rfl] at H; first | done | exact H
  clear H
  have H := H1
  clear H1
  by_cases c4 : (t146.length : Int) = 1
  ·rw [if_pos c4] at H
   have c4b0 : ((t146.length : Int) == 1) = true := beq_iff_eq.mpr c4
   have c4b1 : ((t146.length : Int) != 1) = false := bne_eq_false_iff_eq.mpr c4
   clear c4
   by_cases c5 : 0 < (t146.length : Int)
   ·rw [if_pos c5] at H
    have c5b0 : decide (0 < (t146.length : Int)) = true := decide_eq_true c5
    have c5b1 : decide (0 < t146.length) = true := decide_eq_true (by omega)
    clear c5
    replace H := Option.bind_eq_some_iff.mp H
    obtain ⟨t151, A60, H⟩ := H
    replace H : (if t151.toList = a0.toList then (some ((rd_T25 t146 0).f0, (rd_T25 t146 0).f1, (rd_T25 t146 0).f2, true)) else (some (0, 0, 0, false))) = some (r1, r2, r3, r4) := H
    have A6 := uD A60
    clear A60
    by_cases c7 : t151.toList = a0.toList
    ·rw [if_pos c7] at H
     have c7b0 : (t151.toList == a0.toList) = true := beq_iff_eq.mpr c7
     have c7b1 : (t151.toList != a0.toList) = false := bne_eq_false_iff_eq.mpr c7
     clear c7
     simp only [Option.some.injEq, Prod.mk.injEq] at H
     obtain ⟨rfl, rfl, rfl, rfl⟩ := H
     go_enter Tryd.func16, Tryd.ntmps16
     go_wp2_with (first | ((with_reducible refine gate_dst (N := 2) rfl ?_); (try (refine gate_guard (by rfl) ?_; dsimp only)); refine bx 2 #[.int .i64 0, .int .i64 0, .int .i64 0] 25 ?_; intro gb145 hg w8 hbox hb; have BK145 := uD (hbox); have GW145 := uD ((by rw [hg]; exact (uN (pb HB)) : w.heap.size ≤ gb145)); have GE145 := uD ((by rw [hg]; exact (uN (pb HB)) : w.heap.size ≤ gb145)); replace HB := uD (uO (pb HB) hb); clear hb hbox hg) | ((with_reducible refine gate_callee (f := 21) rfl ?_); refine gl (some 8) Tryd.func21 #[.string a0] ?_; (with_reducible refine (impl_Candidates.calls k a0 t146 true _ ?side1 A2.out).mono ?_); (case side1 => exact tb11 HTAB (pb HB)); rintro e w9 ⟨v148, rfl, ho0, hb⟩; refine ⟨_, rfl, ?_⟩; have HO149 := uD (Kd.R_lower (Kd.R_newB ho0 (pk BK145)) (uN (pb HB))); replace BK145 := uD (blk_below (pk BK145) hb); replace HB := uD (uO (pb HB) hb); (try clear hb); (try clear hb2); (try clear hk); (try clear hi); (try clear ho0); obtain ⟨Ao10, co10, eo10⟩ := Kd.R_slice HO149.out; subst eo10; have p150 : 0 ≤ (0 : Int) := (by omega); have q150 : 0 < (t146.length : Int) := of_decide_eq_true (by first | (with_reducible assumption) | assumption); obtain ⟨ad150, e150, hx150_0, hx150_1, hx150_2⟩ := at_T25 (Kd.R_reads' HO149.out).2.2 0 p150 q150; cases e150; have qi150 : (0 < t146.length) = True := eq_true (by omega); (try rw [show ((0 : Int)).toNat = 0 from rfl] at hx150_0); (try rw [show 0 * 3 = 0 from rfl] at hx150_0); (try rw [Addr.add_zero'] at hx150_0); (try rw [show ((0 : Int)).toNat = 0 from rfl] at hx150_1); (try rw [show 0 * 3 = 0 from rfl] at hx150_1); (try rw [Addr.add_zero'] at hx150_1); (try rw [show ((0 : Int)).toNat = 0 from rfl] at hx150_2); (try rw [show 0 * 3 = 0 from rfl] at hx150_2); (try rw [Addr.add_zero'] at hx150_2); replace p150 := eq_true p150; replace q150 := eq_true q150) | (go_at_call 14; (with_reducible refine (impl_FormatTag.calls k ((rd_T25 t146 0).f0) ((rd_T25 t146 0).f1) ((rd_T25 t146 0).f2) t151 _ ?side1 A6.out).mono ?_); (case side1 => exact tb11 HTAB (pb HB)); rintro e w11 ⟨rfl, hb⟩; replace HO149 := uD (Kd.R_below (pr HO149) hb); replace BK145 := uD (blk_below (pk BK145) hb); replace HB := uD (uO (pb HB) hb); (try clear hb); (try clear hb2); (try clear hk); (try clear hi); have p152 : 0 ≤ (0 : Int) := (by omega); have q152 : 0 < (t146.length : Int) := of_decide_eq_true (by first | (with_reducible assumption) | assumption); obtain ⟨ad152, e152, hx152_0, hx152_1, hx152_2⟩ := at_T25 (Kd.R_reads' HO149.out).2.2 0 p152 q152; obtain rfl : ad150 = ad152 := (by injection e152); have qi152 : (0 < t146.length) = True := eq_true (by omega); (try rw [show ((0 : Int)).toNat = 0 from rfl] at hx152_0); (try rw [show 0 * 3 = 0 from rfl] at hx152_0); (try rw [Addr.add_zero'] at hx152_0); (try rw [show ((0 : Int)).toNat = 0 from rfl] at hx152_1); (try rw [show 0 * 3 = 0 from rfl] at hx152_1); (try rw [Addr.add_zero'] at hx152_1); (try rw [show ((0 : Int)).toNat = 0 from rfl] at hx152_2); (try rw [show 0 * 3 = 0 from rfl] at hx152_2); (try rw [Addr.add_zero'] at hx152_2); replace p152 := eq_true p152; replace q152 := eq_true q152; obtain ⟨hcz12_0, hcz12_1, hcz12_2, hfz12_0, hfz12_1, hfz12_2⟩ := cz3 BK145))
     refine bodyPost_ret (uR rfl _ _ gb145 25 #[.int .i64 ((rd_T25 t146 0).f0), .int .i64 ((rd_T25 t146 0).f1), .int .i64 ((rd_T25 t146 0).f2)] (0, 0) _ rfl (by (with_reducible repeat first|apply uH|apply uJ|apply uG); refine uP (cs := #[.int .i64 ((rd_T25 t146 0).f0), .int .i64 ((rd_T25 t146 0).f1), .int .i64 0]) ?_ 2 _ rfl; (with_reducible repeat first|apply uH|apply uJ|apply uG); refine uP (cs := #[.int .i64 ((rd_T25 t146 0).f0), .int .i64 0, .int .i64 0]) ?_ 1 _ rfl; (with_reducible repeat first|apply uH|apply uJ|apply uG); refine uP (cs := #[.int .i64 0, .int .i64 0, .int .i64 0]) ?_ 0 _ rfl; (with_reducible repeat first|apply uH|apply uJ|apply uG); exact BK145.out) Tryd.underlying25 rfl (by kernel_rfl)) rfl ?_
     exact ⟨by first | rfl | (simp [errW_none, errW_some] <;> rfl) | (simp [*, errW_none, errW_some] <;> rfl), pb HB⟩
    ·rw [if_neg c7] at H
     have c7b0 : (t151.toList == a0.toList) = false := beq_eq_false_iff_ne.mpr c7
     have c7b1 : (t151.toList != a0.toList) = true := bne_iff_ne.mpr c7
     simp only [Option.some.injEq, Prod.mk.injEq] at H
     obtain ⟨rfl, rfl, rfl, rfl⟩ := H
     go_enter Tryd.func16, Tryd.ntmps16
     go_wp2_with (first | ((with_reducible refine gate_dst (N := 2) rfl ?_); (try (refine gate_guard (by rfl) ?_; dsimp only)); refine bx 2 #[.int .i64 0, .int .i64 0, .int .i64 0] 25 ?_; intro gb145 hg w13 hbox hb; have BK145 := uD (hbox); have GW145 := uD ((by rw [hg]; exact (uN (pb HB)) : w.heap.size ≤ gb145)); have GE145 := uD ((by rw [hg]; exact (uN (pb HB)) : w.heap.size ≤ gb145)); replace HB := uD (uO (pb HB) hb); clear hb hbox hg) | ((with_reducible refine gate_callee (f := 21) rfl ?_); refine gl (some 8) Tryd.func21 #[.string a0] ?_; (with_reducible refine (impl_Candidates.calls k a0 t146 true _ ?side1 A2.out).mono ?_); (case side1 => exact tb11 HTAB (pb HB)); rintro e w14 ⟨v148, rfl, ho0, hb⟩; refine ⟨_, rfl, ?_⟩; have HO149 := uD (Kd.R_lower (Kd.R_newB ho0 (pk BK145)) (uN (pb HB))); replace BK145 := uD (blk_below (pk BK145) hb); replace HB := uD (uO (pb HB) hb); (try clear hb); (try clear hb2); (try clear hk); (try clear hi); (try clear ho0); obtain ⟨Ao15, co15, eo15⟩ := Kd.R_slice HO149.out; subst eo15; have p150 : 0 ≤ (0 : Int) := (by omega); have q150 : 0 < (t146.length : Int) := of_decide_eq_true (by first | (with_reducible assumption) | assumption); obtain ⟨ad150, e150, hx150_0, hx150_1, hx150_2⟩ := at_T25 (Kd.R_reads' HO149.out).2.2 0 p150 q150; cases e150; have qi150 : (0 < t146.length) = True := eq_true (by omega); (try rw [show ((0 : Int)).toNat = 0 from rfl] at hx150_0); (try rw [show 0 * 3 = 0 from rfl] at hx150_0); (try rw [Addr.add_zero'] at hx150_0); (try rw [show ((0 : Int)).toNat = 0 from rfl] at hx150_1); (try rw [show 0 * 3 = 0 from rfl] at hx150_1); (try rw [Addr.add_zero'] at hx150_1); (try rw [show ((0 : Int)).toNat = 0 from rfl] at hx150_2); (try rw [show 0 * 3 = 0 from rfl] at hx150_2); (try rw [Addr.add_zero'] at hx150_2); replace p150 := eq_true p150; replace q150 := eq_true q150) | (go_at_call 14; (with_reducible refine (impl_FormatTag.calls k ((rd_T25 t146 0).f0) ((rd_T25 t146 0).f1) ((rd_T25 t146 0).f2) t151 _ ?side1 A6.out).mono ?_); (case side1 => exact tb11 HTAB (pb HB)); rintro e w16 ⟨rfl, hb⟩; replace HO149 := uD (Kd.R_below (pr HO149) hb); replace BK145 := uD (blk_below (pk BK145) hb); replace HB := uD (uO (pb HB) hb); (try clear hb); (try clear hb2); (try clear hk); (try clear hi); obtain ⟨hcz17_0, hcz17_1, hcz17_2, hfz17_0, hfz17_1, hfz17_2⟩ := cz3 BK145))
     refine bodyPost_ret (uR rfl _ _ gb145 25 #[.int .i64 0, .int .i64 0, .int .i64 0] (0, 0) _ rfl (by (with_reducible repeat first|apply uH|apply uJ|apply uG); refine uP (cs := #[.int .i64 0, .int .i64 0, .int .i64 0]) ?_ 2 _ rfl; (with_reducible repeat first|apply uH|apply uJ|apply uG); refine uP (cs := #[.int .i64 0, .int .i64 0, .int .i64 0]) ?_ 1 _ rfl; (with_reducible repeat first|apply uH|apply uJ|apply uG); refine uP (cs := #[.int .i64 0, .int .i64 0, .int .i64 0]) ?_ 0 _ rfl; (with_reducible repeat first|apply uH|apply uJ|apply uG); exact BK145.out) Tryd.underlying25 rfl (by kernel_rfl)) rfl ?_
     exact ⟨by first | rfl | (simp [errW_none, errW_some] <;> rfl) | (simp [*, errW_none, errW_some] <;> rfl), pb HB⟩
   ·rw [if_neg c5] at H
    exact absurd H (by simp)
  ·rw [if_neg c4] at H
   have c4b0 : ((t146.length : Int) == 1) = false := beq_eq_false_iff_ne.mpr c4
   have c4b1 : ((t146.length : Int) != 1) = true := bne_iff_ne.mpr c4
   simp only [Option.some.injEq, Prod.mk.injEq] at H
   obtain ⟨rfl, rfl, rfl, rfl⟩ := H
   go_enter Tryd.func16, Tryd.ntmps16
   go_wp2_with (first | ((with_reducible refine gate_dst (N := 2) rfl ?_); (try (refine gate_guard (by rfl) ?_; dsimp only)); refine bx 2 #[.int .i64 0, .int .i64 0, .int .i64 0] 25 ?_; intro gb145 hg w18 hbox hb; have BK145 := uD (hbox); have GW145 := uD ((by rw [hg]; exact (uN (pb HB)) : w.heap.size ≤ gb145)); have GE145 := uD ((by rw [hg]; exact (uN (pb HB)) : w.heap.size ≤ gb145)); replace HB := uD (uO (pb HB) hb); clear hb hbox hg) | ((with_reducible refine gate_callee (f := 21) rfl ?_); refine gl (some 8) Tryd.func21 #[.string a0] ?_; (with_reducible refine (impl_Candidates.calls k a0 t146 true _ ?side1 A2.out).mono ?_); (case side1 => exact tb11 HTAB (pb HB)); rintro e w19 ⟨v148, rfl, ho0, hb⟩; refine ⟨_, rfl, ?_⟩; have HO149 := uD (Kd.R_lower (Kd.R_newB ho0 (pk BK145)) (uN (pb HB))); replace BK145 := uD (blk_below (pk BK145) hb); replace HB := uD (uO (pb HB) hb); (try clear hb); (try clear hb2); (try clear hk); (try clear hi); (try clear ho0); obtain ⟨Ao20, co20, eo20⟩ := Kd.R_slice HO149.out; subst eo20; obtain ⟨hcz21_0, hcz21_1, hcz21_2, hfz21_0, hfz21_1, hfz21_2⟩ := cz3 BK145))
   refine bodyPost_ret (uR rfl _ _ gb145 25 #[.int .i64 0, .int .i64 0, .int .i64 0] (0, 0) _ rfl (by (with_reducible repeat first|apply uH|apply uJ|apply uG); refine uP (cs := #[.int .i64 0, .int .i64 0, .int .i64 0]) ?_ 2 _ rfl; (with_reducible repeat first|apply uH|apply uJ|apply uG); refine uP (cs := #[.int .i64 0, .int .i64 0, .int .i64 0]) ?_ 1 _ rfl; (with_reducible repeat first|apply uH|apply uJ|apply uG); refine uP (cs := #[.int .i64 0, .int .i64 0, .int .i64 0]) ?_ 0 _ rfl; (with_reducible repeat first|apply uH|apply uJ|apply uG); exact BK145.out) Tryd.underlying25 rfl (by kernel_rfl)) rfl ?_
   exact ⟨by first | rfl | (simp [errW_none, errW_some] <;> rfl) | (simp [*, errW_none, errW_some] <;> rfl), pb HB⟩
 ·replace c3 := Bool.eq_false_iff.mpr c3
  subst c3
  have H1 : (some (0, 0, 0, false)) = some (r1, r2, r3, r4) := by rw [if_neg (show ¬ (false = true) by decide)] at H; first | done | exact H
  clear H
  have H := H1
  clear H1
  simp only [Option.some.injEq, Prod.mk.injEq] at H
  obtain ⟨rfl, rfl, rfl, rfl⟩ := H
  go_enter Tryd.func16, Tryd.ntmps16
  go_wp2_with (first | ((with_reducible refine gate_dst (N := 2) rfl ?_); (try (refine gate_guard (by rfl) ?_; dsimp only)); refine bx 2 #[.int .i64 0, .int .i64 0, .int .i64 0] 25 ?_; intro gb145 hg w22 hbox hb; have BK145 := uD (hbox); have GW145 := uD ((by rw [hg]; exact (uN (pb HB)) : w.heap.size ≤ gb145)); have GE145 := uD ((by rw [hg]; exact (uN (pb HB)) : w.heap.size ≤ gb145)); replace HB := uD (uO (pb HB) hb); clear hb hbox hg) | ((with_reducible refine gate_callee (f := 21) rfl ?_); refine gl (some 8) Tryd.func21 #[.string a0] ?_; (with_reducible refine (impl_Candidates.calls k a0 t146 false _ ?side1 A2.out).mono ?_); (case side1 => exact tb11 HTAB (pb HB)); rintro e w23 ⟨v148, rfl, ho0, hb⟩; refine ⟨_, rfl, ?_⟩; have HO149 := uD (Kd.R_lower (Kd.R_newB ho0 (pk BK145)) (uN (pb HB))); replace BK145 := uD (blk_below (pk BK145) hb); replace HB := uD (uO (pb HB) hb); (try clear hb); (try clear hb2); (try clear hk); (try clear hi); (try clear ho0); obtain ⟨hcz24_0, hcz24_1, hcz24_2, hfz24_0, hfz24_1, hfz24_2⟩ := cz3 BK145))
  refine bodyPost_ret (uR rfl _ _ gb145 25 #[.int .i64 0, .int .i64 0, .int .i64 0] (0, 0) _ rfl (by (with_reducible repeat first|apply uH|apply uJ|apply uG); refine uP (cs := #[.int .i64 0, .int .i64 0, .int .i64 0]) ?_ 2 _ rfl; (with_reducible repeat first|apply uH|apply uJ|apply uG); refine uP (cs := #[.int .i64 0, .int .i64 0, .int .i64 0]) ?_ 1 _ rfl; (with_reducible repeat first|apply uH|apply uJ|apply uG); refine uP (cs := #[.int .i64 0, .int .i64 0, .int .i64 0]) ?_ 0 _ rfl; (with_reducible repeat first|apply uH|apply uJ|apply uG); exact BK145.out) Tryd.underlying25 rfl (by kernel_rfl)) rfl ?_
  exact ⟨by first | rfl | (simp [errW_none, errW_some] <;> rfl) | (simp [*, errW_none, errW_some] <;> rfl), pb HB⟩

/-! ### laws_big: function 25 -/
def laws_big.f (l0 : List Int) : Option (Bool) := some (decide ((l0.length : Int) > 1048576))
set_option maxHeartbeats 8000000 in
set_option maxRecDepth 100000 in
theorem laws_big.calls (A0 : Option Addr) (c0 : Nat) (l0 : List Int) (r : Bool) (w : World) (hr0 : Kd.C (Kd.int .u8) w A0 l0.length l0) (hc0 : l0.length ≤ c0) (h : laws_big.f l0 = some r) :
  Calls Tryd.prog 25 #[.slice A0 l0.length c0] w fun e w' => e = .returned (.bool r) ∧ Drawn0 w w' := by
 have HR0 := uD hr0
 have HC0 := uD hc0
 clear hr0 hc0
 have H : (some (decide ((l0.length : Int) > 1048576))) = some r := h
 clear h
 obtain rfl := Option.some.inj H
 go_enter Tryd.func25, Tryd.ntmps25
 go_wp2
 go_ret
 exact ⟨by first | rfl | (simp; done) | (simp [*]; done), by repeat (first | exact Drawn0.refl _ | apply Drawn0.step)⟩

end Go.Proofs.YtnkaimdcdedekaaDoor.PFnTags
