-- Written by a program of this session (wip/myprint.py: the kit's print with changes): not by print.sh itself.
import Derived.Test.YtnkaimdcdedekaaPFnExactNearTagsx0
namespace Go.Proofs.Ytnkaimdcdedekaa.PFnExactNearTags
open Go.RowKit Go.Proofs.YtnkaimdcdedekaaW.PrintWords Go.Proofs.YtnkaimdcdedekaaW.PrintLast Go.Proofs.YtnkaimdcdedekaaW.PrintMore
open Go renaming Act.put → uc
open Go.Proofs.YtnkaimdcdedekaaW.PrintLast renaming any_of → uY, i64_w → uZ, i32_w → ua, pure_ → ub
open Go.Proofs.YtnkaimdcdedekaaW.PrintWords renaming Aside0.mk → uD, pw_below_drewN → uE, blk_alloc → uG, blk_drewN → uH, blk_drew → uJ, below_drew1 → uK, below_alloc → uL, below_set → uM, below_size → uN, below_step → uO, blk_put → uP, Kd.R_drewN → uS, Kd.R_drew → uT, Kd.R_alloc → uU, Kd.R_mono → uX
open List renaming setIfInBounds_toArray → uA, set_cons_zero → uB, set_cons_succ → uC
open Bool renaming true → T, false → F
attribute [local go_sem] max2_int min2_int max_two min_two max_three min_three max_four min_four   -- for this text's walks alone
set_option linter.unusedVariables false
set_option linter.unusedSimpArgs false

/-! ### laws_toTag: function 5 -/
def laws_toTag.f (a0_0 : Int) (a0_1 : Int) (a0_2 : Int) : Option (Int × Int × Int) := some (a0_0, a0_1, a0_2)
set_option maxHeartbeats 8000000 in
set_option maxRecDepth 100000 in
theorem laws_toTag.calls (a0_0 : Int) (a0_1 : Int) (a0_2 : Int) (r1 : Int) (r2 : Int) (r3 : Int) (w : World) (h : laws_toTag.f a0_0 a0_1 a0_2 = some (r1, r2, r3)) :
  Calls Try.prog 5 #[.agg #[.int .i64 a0_0, .int .i64 a0_1, .int .i64 a0_2]] w fun e w' => e = .returned (.agg #[.int .i64 r1, .int .i64 r2, .int .i64 r3]) ∧ Below w.heap.size w w' := by
 have hu23 := Try.underlying23
 have hu26 := Try.underlying26
 have HB := uD (Below.refl w.heap.size w)
 have H : (some (a0_0, a0_1, a0_2)) = some (r1, r2, r3) := h
 clear h
 simp only [Option.some.injEq, Prod.mk.injEq] at H
 obtain ⟨rfl, rfl, rfl⟩ := H
 go_enter Try.func5, Try.ntmps5
 go_wp2_with (first | ((with_reducible refine gate_dst (N := 1) rfl ?_); refine bx 1 #[.int .i64 a0_0, .int .i64 a0_1, .int .i64 a0_2] 23 ?_; intro gb163 hg w2 hbox hb; have BK163 := uD (hbox); have GW163 := uD ((by rw [hg]; exact (uN (pb HB)) : w.heap.size ≤ gb163)); have GE163 := uD ((by rw [hg]; exact (uN (pb HB)) : w.heap.size ≤ gb163)); replace HB := uD (uO (pb HB) hb); clear hb hbox hg) | ((with_reducible refine gate_dst (N := 2) rfl ?_); refine bx 2 #[.int .i64 0, .int .i64 0, .int .i64 0] 26 ?_; intro gb164 hg w3 hbox hb; have BK164 := uD (hbox); have GW164 := uD ((by rw [hg]; exact (uN (pb HB)) : w.heap.size ≤ gb164)); have GE164 := uD ((by rw [hg]; exact (uN (pb HB)) : w.heap.size ≤ gb164)); replace HB := uD (uO (pb HB) hb); have NB163_164 := uD ((by rw [hg]; exact Nat.ne_of_lt (blk_lt (pk BK163)) : gb163 ≠ gb164)); have NB164_163 := uD ((by rw [hg]; exact Nat.ne_of_gt (blk_lt (pk BK163)) : gb164 ≠ gb163)); replace BK163 := uD (blk_below (pk BK163) hb); clear hb hbox hg) | ((with_reducible refine gate_dst (N := 3) rfl ?_); refine bx 3 #[.int .i64 0, .int .i64 0, .int .i64 0] 26 ?_; intro gb165 hg w4 hbox hb; have BK165 := uD (hbox); have GW165 := uD ((by rw [hg]; exact (uN (pb HB)) : w.heap.size ≤ gb165)); have GE165 := uD ((by rw [hg]; exact (uN (pb HB)) : w.heap.size ≤ gb165)); replace HB := uD (uO (pb HB) hb); have NB163_165 := uD ((by rw [hg]; exact Nat.ne_of_lt (blk_lt (pk BK163)) : gb163 ≠ gb165)); have NB165_163 := uD ((by rw [hg]; exact Nat.ne_of_gt (blk_lt (pk BK163)) : gb165 ≠ gb163)); replace BK163 := uD (blk_below (pk BK163) hb); have NB164_165 := uD ((by rw [hg]; exact Nat.ne_of_lt (blk_lt (pk BK164)) : gb164 ≠ gb165)); have NB165_164 := uD ((by rw [hg]; exact Nat.ne_of_gt (blk_lt (pk BK164)) : gb165 ≠ gb164)); replace BK164 := uD (blk_below (pk BK164) hb); clear hb hbox hg; have hnb5 := NB163_164.out; have hnc5 := NB164_163.out; have hnb6 := NB163_165.out; have hnc6 := NB165_163.out; obtain ⟨hcz7_0, hcz7_1, hcz7_2, hfz7_0, hfz7_1, hfz7_2⟩ := cz3 BK163; have hnb8 := NB165_164.out; have hnc8 := NB164_165.out; obtain ⟨hcz9_0, hcz9_1, hcz9_2, hfz9_0, hfz9_1, hfz9_2⟩ := cz3 BK165; obtain ⟨hcz10_0, hcz10_1, hcz10_2, hfz10_0, hfz10_1, hfz10_2⟩ := cz3 BK164))
 refine bodyPost_ret (results_cell_row rfl _ _ gb164 26 #[.int .i64 a0_0, .int .i64 a0_1, .int .i64 a0_2] (0, 0) _ rfl (by (with_reducible repeat first|apply uH|apply uJ|apply uG); refine uP (cs := #[.int .i64 a0_0, .int .i64 a0_1, .int .i64 0]) ?_ 2 _ rfl; (with_reducible repeat first|apply uH|apply uJ|apply uG); refine uP (cs := #[.int .i64 a0_0, .int .i64 0, .int .i64 0]) ?_ 1 _ rfl; (with_reducible repeat first|apply uH|apply uJ|apply uG); refine uP (cs := #[.int .i64 0, .int .i64 0, .int .i64 0]) ?_ 0 _ rfl; exact ps BK164) Try.underlying26 rfl (by kernel_rfl)) rfl ?_
 exact ⟨by first | rfl | (simp [errW_none, errW_some] <;> rfl) | (simp [*, errW_none, errW_some] <;> rfl), pb HB⟩

/-! ### impl_TagOk: function 18 -/
def impl_TagOk.f (a0_0 : Int) (a0_1 : Int) (a0_2 : Int) : Option (Bool) := if a0_0 ≥ 0 then (if a0_0 ≤ 9 then (if a0_1 ≥ 1 then (if a0_1 ≤ 999 then (if a0_2 ≥ 0 then (some (decide (a0_2 ≤ 999999))) else (some false)) else (some false)) else (some false)) else (some false)) else (some false)
set_option maxHeartbeats 8000000 in
set_option maxRecDepth 100000 in
theorem impl_TagOk.calls (a0_0 : Int) (a0_1 : Int) (a0_2 : Int) (r : Bool) (w : World) (h : impl_TagOk.f a0_0 a0_1 a0_2 = some r) :
  Calls Try.prog 18 #[.agg #[.int .i64 a0_0, .int .i64 a0_1, .int .i64 a0_2]] w fun e w' => e = .returned (.bool r) ∧ Below w.heap.size w w' := by
 have hu26 := Try.underlying26
 have HB := uD (Below.refl w.heap.size w)
 have H : (if a0_0 ≥ 0 then (if a0_0 ≤ 9 then (if a0_1 ≥ 1 then (if a0_1 ≤ 999 then (if a0_2 ≥ 0 then (some (decide (a0_2 ≤ 999999))) else (some false)) else (some false)) else (some false)) else (some false)) else (some false)) = some r := h
 clear h
 by_cases c2 : a0_0 ≥ 0
 ·rw [if_pos c2] at H
  have c2b0 : decide (0 ≤ a0_0) = true := decide_eq_true c2
  clear c2
  by_cases c3 : a0_0 ≤ 9
  ·rw [if_pos c3] at H
   have c3b0 : decide (a0_0 ≤ 9) = true := decide_eq_true c3
   clear c3
   by_cases c4 : a0_1 ≥ 1
   ·rw [if_pos c4] at H
    have c4b0 : decide (1 ≤ a0_1) = true := decide_eq_true c4
    clear c4
    by_cases c5 : a0_1 ≤ 999
    ·rw [if_pos c5] at H
     have c5b0 : decide (a0_1 ≤ 999) = true := decide_eq_true c5
     clear c5
     by_cases c6 : a0_2 ≥ 0
     ·rw [if_pos c6] at H
      have c6b0 : decide (0 ≤ a0_2) = true := decide_eq_true c6
      clear c6
      obtain rfl := Option.some.inj H
      go_enter Try.func18, Try.ntmps18
      go_wp2_with (first | ((with_reducible refine gate_dst (N := 1) rfl ?_); refine bx 1 #[.int .i64 a0_0, .int .i64 a0_1, .int .i64 a0_2] 26 ?_; intro gb166 hg w7 hbox hb; have BK166 := uD (hbox); have GW166 := uD ((by rw [hg]; exact (uN (pb HB)) : w.heap.size ≤ gb166)); have GE166 := uD ((by rw [hg]; exact (uN (pb HB)) : w.heap.size ≤ gb166)); replace HB := uD (uO (pb HB) hb); clear hb hbox hg; obtain ⟨hcz8_0, hcz8_1, hcz8_2, hfz8_0, hfz8_1, hfz8_2⟩ := cz3 BK166))
      go_ret
      exact ⟨by first | rfl | (simp [errW_none, errW_some] <;> rfl) | (simp [*, errW_none, errW_some] <;> rfl), pb HB⟩
     ·rw [if_neg c6] at H
      have c6b0 : decide (0 ≤ a0_2) = false := decide_eq_false c6
      clear c6
      obtain rfl := Option.some.inj H
      go_enter Try.func18, Try.ntmps18
      go_wp2_with (first | ((with_reducible refine gate_dst (N := 1) rfl ?_); refine bx 1 #[.int .i64 a0_0, .int .i64 a0_1, .int .i64 a0_2] 26 ?_; intro gb166 hg w9 hbox hb; have BK166 := uD (hbox); have GW166 := uD ((by rw [hg]; exact (uN (pb HB)) : w.heap.size ≤ gb166)); have GE166 := uD ((by rw [hg]; exact (uN (pb HB)) : w.heap.size ≤ gb166)); replace HB := uD (uO (pb HB) hb); clear hb hbox hg; obtain ⟨hcz10_0, hcz10_1, hcz10_2, hfz10_0, hfz10_1, hfz10_2⟩ := cz3 BK166))
      go_ret
      exact ⟨by first | rfl | (simp [errW_none, errW_some] <;> rfl) | (simp [*, errW_none, errW_some] <;> rfl), pb HB⟩
    ·rw [if_neg c5] at H
     have c5b0 : decide (a0_1 ≤ 999) = false := decide_eq_false c5
     clear c5
     obtain rfl := Option.some.inj H
     go_enter Try.func18, Try.ntmps18
     go_wp2_with (first | ((with_reducible refine gate_dst (N := 1) rfl ?_); refine bx 1 #[.int .i64 a0_0, .int .i64 a0_1, .int .i64 a0_2] 26 ?_; intro gb166 hg w11 hbox hb; have BK166 := uD (hbox); have GW166 := uD ((by rw [hg]; exact (uN (pb HB)) : w.heap.size ≤ gb166)); have GE166 := uD ((by rw [hg]; exact (uN (pb HB)) : w.heap.size ≤ gb166)); replace HB := uD (uO (pb HB) hb); clear hb hbox hg; obtain ⟨hcz12_0, hcz12_1, hcz12_2, hfz12_0, hfz12_1, hfz12_2⟩ := cz3 BK166))
     go_ret
     exact ⟨by first | rfl | (simp [errW_none, errW_some] <;> rfl) | (simp [*, errW_none, errW_some] <;> rfl), pb HB⟩
   ·rw [if_neg c4] at H
    have c4b0 : decide (1 ≤ a0_1) = false := decide_eq_false c4
    clear c4
    obtain rfl := Option.some.inj H
    go_enter Try.func18, Try.ntmps18
    go_wp2_with (first | ((with_reducible refine gate_dst (N := 1) rfl ?_); refine bx 1 #[.int .i64 a0_0, .int .i64 a0_1, .int .i64 a0_2] 26 ?_; intro gb166 hg w13 hbox hb; have BK166 := uD (hbox); have GW166 := uD ((by rw [hg]; exact (uN (pb HB)) : w.heap.size ≤ gb166)); have GE166 := uD ((by rw [hg]; exact (uN (pb HB)) : w.heap.size ≤ gb166)); replace HB := uD (uO (pb HB) hb); clear hb hbox hg; obtain ⟨hcz14_0, hcz14_1, hcz14_2, hfz14_0, hfz14_1, hfz14_2⟩ := cz3 BK166))
    go_ret
    exact ⟨by first | rfl | (simp [errW_none, errW_some] <;> rfl) | (simp [*, errW_none, errW_some] <;> rfl), pb HB⟩
  ·rw [if_neg c3] at H
   have c3b0 : decide (a0_0 ≤ 9) = false := decide_eq_false c3
   clear c3
   obtain rfl := Option.some.inj H
   go_enter Try.func18, Try.ntmps18
   go_wp2_with (first | ((with_reducible refine gate_dst (N := 1) rfl ?_); refine bx 1 #[.int .i64 a0_0, .int .i64 a0_1, .int .i64 a0_2] 26 ?_; intro gb166 hg w15 hbox hb; have BK166 := uD (hbox); have GW166 := uD ((by rw [hg]; exact (uN (pb HB)) : w.heap.size ≤ gb166)); have GE166 := uD ((by rw [hg]; exact (uN (pb HB)) : w.heap.size ≤ gb166)); replace HB := uD (uO (pb HB) hb); clear hb hbox hg; obtain ⟨hcz16_0, hcz16_1, hcz16_2, hfz16_0, hfz16_1, hfz16_2⟩ := cz3 BK166))
   go_ret
   exact ⟨by first | rfl | (simp [errW_none, errW_some] <;> rfl) | (simp [*, errW_none, errW_some] <;> rfl), pb HB⟩
 ·rw [if_neg c2] at H
  have c2b0 : decide (0 ≤ a0_0) = false := decide_eq_false c2
  clear c2
  obtain rfl := Option.some.inj H
  go_enter Try.func18, Try.ntmps18
  go_wp2_with (first | ((with_reducible refine gate_dst (N := 1) rfl ?_); refine bx 1 #[.int .i64 a0_0, .int .i64 a0_1, .int .i64 a0_2] 26 ?_; intro gb166 hg w17 hbox hb; have BK166 := uD (hbox); have GW166 := uD ((by rw [hg]; exact (uN (pb HB)) : w.heap.size ≤ gb166)); have GE166 := uD ((by rw [hg]; exact (uN (pb HB)) : w.heap.size ≤ gb166)); replace HB := uD (uO (pb HB) hb); clear hb hbox hg; obtain ⟨hcz18_0, hcz18_1, hcz18_2, hfz18_0, hfz18_1, hfz18_2⟩ := cz3 BK166))
  go_ret
  exact ⟨by first | rfl | (simp [errW_none, errW_some] <;> rfl) | (simp [*, errW_none, errW_some] <;> rfl), pb HB⟩

/-! ### impl_TagNumber: function 16 -/
def impl_TagNumber.f (a0_0 : Int) (a0_1 : Int) (a0_2 : Int) : Option (Int) := (impl_TagOk.f a0_0 a0_1 a0_2).bind fun t168 => (if t168 = true then (some (wrap64 ((wrap64 ((wrap64 ((wrap64 (a0_0 * 1000)) + a0_1)) * 1000000)) + a0_2))) else (some (-1)))
set_option maxHeartbeats 8000000 in
set_option maxRecDepth 100000 in
theorem impl_TagNumber.calls (a0_0 : Int) (a0_1 : Int) (a0_2 : Int) (r : Int) (w : World) (h : impl_TagNumber.f a0_0 a0_1 a0_2 = some r) :
  Calls Try.prog 16 #[.agg #[.int .i64 a0_0, .int .i64 a0_1, .int .i64 a0_2]] w fun e w' => e = .returned (.int .i64 r) ∧ Below w.heap.size w w' := by
 have hu26 := Try.underlying26
 have HB := uD (Below.refl w.heap.size w)
 have H : ((impl_TagOk.f a0_0 a0_1 a0_2).bind fun t168 => (if t168 = true then (some (wrap64 ((wrap64 ((wrap64 ((wrap64 (a0_0 * 1000)) + a0_1)) * 1000000)) + a0_2))) else (some (-1)))) = some r := h
 clear h
 replace H := Option.bind_eq_some_iff.mp H
 obtain ⟨t168, A20, H⟩ := H
 replace H : (if t168 = true then (some (wrap64 ((wrap64 ((wrap64 ((wrap64 (a0_0 * 1000)) + a0_1)) * 1000000)) + a0_2))) else (some (-1))) = some r := H
 have A2 := uD A20
 clear A20
 by_cases c3 : t168 = true
 ·subst c3
  have H1 : (some (wrap64 ((wrap64 ((wrap64 ((wrap64 (a0_0 * 1000)) + a0_1)) * 1000000)) + a0_2))) = some r := by rw [if_pos rfl] at H; first | done | exact H
  clear H
  have H := H1
  clear H1
  obtain rfl := Option.some.inj H
  go_enter Try.func16, Try.ntmps16
  go_wp2_with (first | ((with_reducible refine gate_dst (N := 1) rfl ?_); refine bx 1 #[.int .i64 a0_0, .int .i64 a0_1, .int .i64 a0_2] 26 ?_; intro gb167 hg w4 hbox hb; have BK167 := uD (hbox); have GW167 := uD ((by rw [hg]; exact (uN (pb HB)) : w.heap.size ≤ gb167)); have GE167 := uD ((by rw [hg]; exact (uN (pb HB)) : w.heap.size ≤ gb167)); replace HB := uD (uO (pb HB) hb); clear hb hbox hg; obtain ⟨hcz5_0, hcz5_1, hcz5_2, hfz5_0, hfz5_1, hfz5_2⟩ := cz3 BK167) | ((with_reducible refine gate_callee (f := 18) rfl ?_); refine gl (some 4) Try.func18 #[.agg #[.int .i64 a0_0, .int .i64 a0_1, .int .i64 a0_2]] ?_; (with_reducible refine (impl_TagOk.calls a0_0 a0_1 a0_2 true _ A2.out).mono ?_); rintro e w6 ⟨rfl, hb⟩; refine ⟨_, rfl, ?_⟩; replace BK167 := uD (blk_below (pk BK167) hb); replace HB := uD (uO (pb HB) hb); (try clear hb); (try clear hb2); (try clear hk); (try clear hi); obtain ⟨hcz7_0, hcz7_1, hcz7_2, hfz7_0, hfz7_1, hfz7_2⟩ := cz3 BK167))
  go_ret
  exact ⟨by first | rfl | (simp [errW_none, errW_some] <;> rfl) | (simp [*, errW_none, errW_some] <;> rfl), pb HB⟩
 ·replace c3 := Bool.eq_false_iff.mpr c3
  subst c3
  have H1 : (some (-1)) = some r := by rw [if_neg (show ¬ (false = true) by decide)] at H; first | done | exact H
  clear H
  have H := H1
  clear H1
  obtain rfl := Option.some.inj H
  go_enter Try.func16, Try.ntmps16
  go_wp2_with (first | ((with_reducible refine gate_dst (N := 1) rfl ?_); refine bx 1 #[.int .i64 a0_0, .int .i64 a0_1, .int .i64 a0_2] 26 ?_; intro gb167 hg w8 hbox hb; have BK167 := uD (hbox); have GW167 := uD ((by rw [hg]; exact (uN (pb HB)) : w.heap.size ≤ gb167)); have GE167 := uD ((by rw [hg]; exact (uN (pb HB)) : w.heap.size ≤ gb167)); replace HB := uD (uO (pb HB) hb); clear hb hbox hg; obtain ⟨hcz9_0, hcz9_1, hcz9_2, hfz9_0, hfz9_1, hfz9_2⟩ := cz3 BK167) | ((with_reducible refine gate_callee (f := 18) rfl ?_); refine gl (some 4) Try.func18 #[.agg #[.int .i64 a0_0, .int .i64 a0_1, .int .i64 a0_2]] ?_; (with_reducible refine (impl_TagOk.calls a0_0 a0_1 a0_2 false _ A2.out).mono ?_); rintro e w10 ⟨rfl, hb⟩; refine ⟨_, rfl, ?_⟩; replace BK167 := uD (blk_below (pk BK167) hb); replace HB := uD (uO (pb HB) hb); (try clear hb); (try clear hb2); (try clear hk); (try clear hi)))
  go_ret
  exact ⟨by first | rfl | (simp [errW_none, errW_some] <;> rfl) | (simp [*, errW_none, errW_some] <;> rfl), pb HB⟩

/-! ### impl_tagOf: function 17 -/
def impl_tagOf.f (a0 : Int) : Option (Int × Int × Int) := some (wrap64 (Int.tdiv a0 1000000000), Int.tmod (wrap64 (Int.tdiv a0 1000000)) 1000, Int.tmod a0 1000000)
set_option maxHeartbeats 8000000 in
set_option maxRecDepth 100000 in
theorem impl_tagOf.calls (a0 : Int) (r1 : Int) (r2 : Int) (r3 : Int) (w : World) (h : impl_tagOf.f a0 = some (r1, r2, r3)) :
  Calls Try.prog 17 #[.int .i64 a0] w fun e w' => e = .returned (.agg #[.int .i64 r1, .int .i64 r2, .int .i64 r3]) ∧ Below w.heap.size w w' := by
 have hu26 := Try.underlying26
 have HB := uD (Below.refl w.heap.size w)
 have H : (some (wrap64 (Int.tdiv a0 1000000000), Int.tmod (wrap64 (Int.tdiv a0 1000000)) 1000, Int.tmod a0 1000000)) = some (r1, r2, r3) := h
 clear h
 simp only [Option.some.injEq, Prod.mk.injEq] at H
 obtain ⟨rfl, rfl, rfl⟩ := H
 go_enter Try.func17, Try.ntmps17
 go_wp2_with (first | ((with_reducible refine gate_dst (N := 2) rfl ?_); refine bx 2 #[.int .i64 0, .int .i64 0, .int .i64 0] 26 ?_; intro gb169 hg w2 hbox hb; have BK169 := uD (hbox); have GW169 := uD ((by rw [hg]; exact (uN (pb HB)) : w.heap.size ≤ gb169)); have GE169 := uD ((by rw [hg]; exact (uN (pb HB)) : w.heap.size ≤ gb169)); replace HB := uD (uO (pb HB) hb); clear hb hbox hg; obtain ⟨hcz3_0, hcz3_1, hcz3_2, hfz3_0, hfz3_1, hfz3_2⟩ := cz3 BK169))
 refine bodyPost_ret (results_cell_row rfl _ _ gb169 26 #[.int .i64 (wrap64 (Int.tdiv a0 1000000000)), .int .i64 (Int.tmod (wrap64 (Int.tdiv a0 1000000)) 1000), .int .i64 (Int.tmod a0 1000000)] (0, 0) _ rfl (by (with_reducible repeat first|apply uH|apply uJ|apply uG); refine uP (cs := #[.int .i64 (wrap64 (Int.tdiv a0 1000000000)), .int .i64 (Int.tmod (wrap64 (Int.tdiv a0 1000000)) 1000), .int .i64 0]) ?_ 2 _ rfl; (with_reducible repeat first|apply uH|apply uJ|apply uG); refine uP (cs := #[.int .i64 (wrap64 (Int.tdiv a0 1000000000)), .int .i64 0, .int .i64 0]) ?_ 1 _ rfl; (with_reducible repeat first|apply uH|apply uJ|apply uG); refine uP (cs := #[.int .i64 0, .int .i64 0, .int .i64 0]) ?_ 0 _ rfl; (with_reducible repeat first|apply uH|apply uJ|apply uG); exact BK169.out) Try.underlying26 rfl (by kernel_rfl)) rfl ?_
 exact ⟨by first | rfl | (simp [errW_none, errW_some] <;> rfl) | (simp [*, errW_none, errW_some] <;> rfl), pb HB⟩

/-! ### impl_TagCheck: function 19 -/
def impl_TagCheck.f (a0_0 : Int) (a0_1 : Int) (a0_2 : Int) : Option (Int) := (impl_TagOk.f a0_0 a0_1 a0_2).bind fun t171 => (if t171 = true then ((impl_TagNumber.f a0_0 a0_1 a0_2).bind fun t172 => (some (Int.tmod t172 7))) else (some (-1)))
set_option maxHeartbeats 8000000 in
set_option maxRecDepth 100000 in
theorem impl_TagCheck.calls (a0_0 : Int) (a0_1 : Int) (a0_2 : Int) (r : Int) (w : World) (h : impl_TagCheck.f a0_0 a0_1 a0_2 = some r) :
  Calls Try.prog 19 #[.agg #[.int .i64 a0_0, .int .i64 a0_1, .int .i64 a0_2]] w fun e w' => e = .returned (.int .i64 r) ∧ Below w.heap.size w w' := by
 have hu26 := Try.underlying26
 have HB := uD (Below.refl w.heap.size w)
 have H : ((impl_TagOk.f a0_0 a0_1 a0_2).bind fun t171 => (if t171 = true then ((impl_TagNumber.f a0_0 a0_1 a0_2).bind fun t172 => (some (Int.tmod t172 7))) else (some (-1)))) = some r := h
 clear h
 replace H := Option.bind_eq_some_iff.mp H
 obtain ⟨t171, A20, H⟩ := H
 replace H : (if t171 = true then ((impl_TagNumber.f a0_0 a0_1 a0_2).bind fun t172 => (some (Int.tmod t172 7))) else (some (-1))) = some r := H
 have A2 := uD A20
 clear A20
 by_cases c3 : t171 = true
 ·subst c3
  have H1 : ((impl_TagNumber.f a0_0 a0_1 a0_2).bind fun t172 => (some (Int.tmod t172 7))) = some r := by rw [if_pos rfl] at H; first | done | exact H
  clear H
  have H := H1
  clear H1
  replace H := Option.bind_eq_some_iff.mp H
  obtain ⟨t172, A40, H⟩ := H
  replace H : (some (Int.tmod t172 7)) = some r := H
  have A4 := uD A40
  clear A40
  obtain rfl := Option.some.inj H
  go_enter Try.func19, Try.ntmps19
  go_wp2_with (first | ((with_reducible refine gate_dst (N := 1) rfl ?_); refine bx 1 #[.int .i64 a0_0, .int .i64 a0_1, .int .i64 a0_2] 26 ?_; intro gb170 hg w5 hbox hb; have BK170 := uD (hbox); have GW170 := uD ((by rw [hg]; exact (uN (pb HB)) : w.heap.size ≤ gb170)); have GE170 := uD ((by rw [hg]; exact (uN (pb HB)) : w.heap.size ≤ gb170)); replace HB := uD (uO (pb HB) hb); clear hb hbox hg; obtain ⟨hcz6_0, hcz6_1, hcz6_2, hfz6_0, hfz6_1, hfz6_2⟩ := cz3 BK170) | ((with_reducible refine gate_callee (f := 18) rfl ?_); refine gl (some 4) Try.func18 #[.agg #[.int .i64 a0_0, .int .i64 a0_1, .int .i64 a0_2]] ?_; (with_reducible refine (impl_TagOk.calls a0_0 a0_1 a0_2 true _ A2.out).mono ?_); rintro e w7 ⟨rfl, hb⟩; refine ⟨_, rfl, ?_⟩; replace BK170 := uD (blk_below (pk BK170) hb); replace HB := uD (uO (pb HB) hb); (try clear hb); (try clear hb2); (try clear hk); (try clear hi); obtain ⟨hcz8_0, hcz8_1, hcz8_2, hfz8_0, hfz8_1, hfz8_2⟩ := cz3 BK170) | ((with_reducible refine gate_callee (f := 16) rfl ?_); refine gl (some 7) Try.func16 #[.agg #[.int .i64 a0_0, .int .i64 a0_1, .int .i64 a0_2]] ?_; (with_reducible refine (impl_TagNumber.calls a0_0 a0_1 a0_2 t172 _ A4.out).mono ?_); rintro e w9 ⟨rfl, hb⟩; refine ⟨_, rfl, ?_⟩; replace BK170 := uD (blk_below (pk BK170) hb); replace HB := uD (uO (pb HB) hb); (try clear hb); (try clear hb2); (try clear hk); (try clear hi)))
  go_ret
  exact ⟨by first | rfl | (simp [errW_none, errW_some] <;> rfl) | (simp [*, errW_none, errW_some] <;> rfl), pb HB⟩
 ·replace c3 := Bool.eq_false_iff.mpr c3
  subst c3
  have H1 : (some (-1)) = some r := by rw [if_neg (show ¬ (false = true) by decide)] at H; first | done | exact H
  clear H
  have H := H1
  clear H1
  obtain rfl := Option.some.inj H
  go_enter Try.func19, Try.ntmps19
  go_wp2_with (first | ((with_reducible refine gate_dst (N := 1) rfl ?_); refine bx 1 #[.int .i64 a0_0, .int .i64 a0_1, .int .i64 a0_2] 26 ?_; intro gb170 hg w10 hbox hb; have BK170 := uD (hbox); have GW170 := uD ((by rw [hg]; exact (uN (pb HB)) : w.heap.size ≤ gb170)); have GE170 := uD ((by rw [hg]; exact (uN (pb HB)) : w.heap.size ≤ gb170)); replace HB := uD (uO (pb HB) hb); clear hb hbox hg; obtain ⟨hcz11_0, hcz11_1, hcz11_2, hfz11_0, hfz11_1, hfz11_2⟩ := cz3 BK170) | ((with_reducible refine gate_callee (f := 18) rfl ?_); refine gl (some 4) Try.func18 #[.agg #[.int .i64 a0_0, .int .i64 a0_1, .int .i64 a0_2]] ?_; (with_reducible refine (impl_TagOk.calls a0_0 a0_1 a0_2 false _ A2.out).mono ?_); rintro e w12 ⟨rfl, hb⟩; refine ⟨_, rfl, ?_⟩; replace BK170 := uD (blk_below (pk BK170) hb); replace HB := uD (uO (pb HB) hb); (try clear hb); (try clear hb2); (try clear hk); (try clear hi)))
  go_ret
  exact ⟨by first | rfl | (simp [errW_none, errW_some] <;> rfl) | (simp [*, errW_none, errW_some] <;> rfl), pb HB⟩

/-! ### impl_ascending: function 20 -/
mutual
def impl_ascending.l0 : Nat → List (S26) → Int → Int → Option ((List (S26)))
 | 0, _, _, _ => none
 | k + 1, x0, x6, x7 => if x7 < x6 then (impl_ascending.l1 k x0 x7 x6 x7) else (some x0)
def impl_ascending.l1 : Nat → List (S26) → Int → Int → Int → Option ((List (S26)))
 | 0, _, _, _, _ => none
 | k + 1, x0, x4, x6, x7 => if x4 > 0 then (if 0 ≤ (wrap64 (x4 - 1)) then (if (wrap64 (x4 - 1)) < (x0.length : Int) then ((impl_TagNumber.f ((rd_T26 x0 (wrap64 (x4 - 1))).f0) ((rd_T26 x0 (wrap64 (x4 - 1))).f1) ((rd_T26 x0 (wrap64 (x4 - 1))).f2)).bind fun t174 => (if 0 ≤ x4 then (if x4 < (x0.length : Int) then ((impl_TagNumber.f ((rd_T26 x0 x4).f0) ((rd_T26 x0 x4).f1) ((rd_T26 x0 x4).f2)).bind fun t176 => (if t174 > t176 then (impl_ascending.l1 k ((x0.set ((wrap64 (x4 - 1)) : Int).toNat (⟨(rd_T26 x0 x4).f0, (rd_T26 x0 x4).f1, (rd_T26 x0 x4).f2⟩ : S26)).set (x4 : Int).toNat (⟨(rd_T26 x0 (wrap64 (x4 - 1))).f0, (rd_T26 x0 (wrap64 (x4 - 1))).f1, (rd_T26 x0 (wrap64 (x4 - 1))).f2⟩ : S26)) (wrap64 (x4 - 1)) x6 x7) else (impl_ascending.l0 k x0 x6 (wrap64 (x7 + 1))))) else (none)) else (none))) else (none)) else (none)) else (impl_ascending.l0 k x0 x6 (wrap64 (x7 + 1)))
end
def impl_ascending.f (k : Nat) (l0 : List (S26)) : Option ((List (S26))) := impl_ascending.l0 k l0 (l0.length : Int) 0
theorem impl_ascending.mono_l : ∀ k, (∀ y0 y1 y2, LeO (impl_ascending.l0 k y0 y1 y2) (impl_ascending.l0 (k + 1) y0 y1 y2)) ∧ (∀ y0 y1 y2 y3, LeO (impl_ascending.l1 k y0 y1 y2 y3) (impl_ascending.l1 (k + 1) y0 y1 y2 y3))
 | 0 => ⟨fun _ _ _ r h => by simp [impl_ascending.l0] at h, fun _ _ _ _ r h => by simp [impl_ascending.l1] at h⟩
 | k + 1 => by
  obtain ⟨ih0, ih1⟩ := impl_ascending.mono_l k
  refine ⟨?_, ?_⟩
  ·intro y0 y1 y2
   unfold impl_ascending.l0
   repeat' first
   | (with_reducible exact ih0 _ _ _)
   | (with_reducible exact ih1 _ _ _ _)
   | (with_reducible exact LeO.refl _)
   | (with_reducible exact LeO.none _)
   | (with_reducible refine LeO.ite ?_ ?_)
   | (with_reducible refine LeO.bind ?_ (fun _ => ?_))
   | exact ih0 _ _ _
   | exact ih1 _ _ _ _
   | exact LeO.none _
   | refine LeO.ite ?_ ?_
   | refine LeO.bind ?_ (fun _ => ?_)
  ·intro y0 y1 y2 y3
   unfold impl_ascending.l1
   repeat' first
   | (with_reducible exact ih0 _ _ _)
   | (with_reducible exact ih1 _ _ _ _)
   | (with_reducible exact LeO.refl _)
   | (with_reducible exact LeO.none _)
   | (with_reducible refine LeO.ite ?_ ?_)
   | (with_reducible refine LeO.bind ?_ (fun _ => ?_))
   | exact ih0 _ _ _
   | exact ih1 _ _ _ _
   | exact LeO.none _
   | refine LeO.ite ?_ ?_
   | refine LeO.bind ?_ (fun _ => ?_)
theorem impl_ascending.mono : ∀ a0 k, LeO (impl_ascending.f k a0) (impl_ascending.f (k + 1) a0) := by
 intro a0 k
 obtain ⟨ih0, ih1⟩ := impl_ascending.mono_l k
 unfold impl_ascending.f
 repeat' first
   | (with_reducible exact ih0 _ _ _)
   | (with_reducible exact ih1 _ _ _ _)
   | (with_reducible exact LeO.refl _)
   | (with_reducible exact LeO.none _)
   | (with_reducible refine LeO.ite ?_ ?_)
   | (with_reducible refine LeO.bind ?_ (fun _ => ?_))
   | exact ih0 _ _ _
   | exact ih1 _ _ _ _
   | exact LeO.none _
   | refine LeO.ite ?_ ?_
   | refine LeO.bind ?_ (fun _ => ?_)
def impl_ascending.T5 : Bool × List (List Nat × List Nat) := (true, [([], []), ([0], [0]), ([1], [1]), ([2], [2]), ([2], [2]), ([4, 2], [2, 4]), ([3, 5, 2], [2, 3, 5]), ([6, 2], [2, 6]), ([7, 2, 2], [2, 7]), ([2], [2]), ([2], [2]), ([9, 10, 2], [2, 9, 10]), ([11, 2], [2, 11]), ([12, 8, 2], [2, 12]), ([8, 13, 2], [2, 8, 13]), ([2, 14], [2, 14])])
def impl_ascending.B5 : List Nat := [0, 1, 3, 7, 7, 23, 63, 127, 255, 7, 7, 1543, 3591, 8191, 16383, 32767]
theorem impl_ascending.tab5 : rtab .any (opsOf Try.f20 5) = impl_ascending.T5 := by kernel_rfl
theorem impl_ascending.bits5 : waitsOk impl_ascending.T5.2 impl_ascending.B5 = true := by kernel_rfl
def impl_ascending.T7 : Bool × List (List Nat × List Nat) := (true, [([], []), ([], []), ([1], [1]), ([], []), ([], []), ([], []), ([], []), ([5, 6], [5, 6]), ([7], [7]), ([], []), ([], []), ([10], [10]), ([9, 11], [9, 11]), ([12], [12]), ([0, 2, 0, 1, 2, 5, 6, 7, 8, 13], [0, 2]), ([14, 8, 0, 1, 2, 5, 6, 7, 8, 13], [8, 14]), ([3, 4, 0, 1, 2, 3, 4, 5, 6, 7, 8, 9, 10, 11, 12, 13, 14, 15], [3, 4]), ([16, 13, 15, 0, 1, 2, 3, 4, 5, 6, 7, 8, 9, 10, 11, 12, 13, 14, 15], [13, 16])])
def impl_ascending.B7 : List Nat := [0, 0, 2, 0, 0, 0, 0, 96, 224, 0, 0, 1024, 3584, 7680, 16359, 32743, 65535, 131071]
theorem impl_ascending.tab7 : rtab .any (opsOf Try.f20 7) = impl_ascending.T7 := by kernel_rfl
theorem impl_ascending.bits7 : waitsOk impl_ascending.T7.2 impl_ascending.B7 = true := by kernel_rfl
set_option maxHeartbeats 8000000 in
set_option maxRecDepth 100000 in
theorem impl_ascending.calls (k : Nat) (P0_ : Nat → Prop) (u9000_ : Value) (l0 : List (S26)) (r : List (S26)) (w0 w : World) (hB : Below w0.heap.size w0 w) (ho0 : Kd.R k26 26 w w0.heap.size P0_ u9000_ l0) (h : impl_ascending.f k l0 = some r) :
  Calls Try.prog 20 #[u9000_] w fun e w' => ∃ v0_ : Value, e = .returned (v0_) ∧ Kd.R k26 26 w' w0.heap.size (fun k_ => (P0_ k_ ∨ w.heap.size ≤ k_)) v0_ r ∧ Below w0.heap.size w0 w' ∧ Kept w w' (fun k_ => P0_ k_) := by
 have hu26 := Try.underlying26
 have HO0 := uD (show Kd.R k26 26 w w0.heap.size (fun k_ => (P0_ k_ ∨ w.heap.size ≤ k_)) u9000_ l0 from uX ho0 (fun k_ hk => (.inl hk)))
 have HK := uD (Kept.refl w (fun k_ => P0_ k_))
 have HW0 := uD hB.size
 have HB := uD hB
 clear hB
 have H : (impl_ascending.l0 k l0 (l0.length : Int) 0) = some r := h
 clear h
 have H' := uD H
 clear H
 obtain ⟨Ao2, co2, eo2⟩ := Kd.R_slice HO0.out
 subst eo2
 go_enter Try.func20, Try.ntmps20
 go_wp2
 go_loopg [7] k (fun kq v7 w' => ∃ (x0_1 : List (S26)) (x7_1 : Int), v7 = .int .i64 x7_1 ∧ Aside0 (impl_ascending.l0 kq x0_1 (l0.length : Int) x7_1 = some r) ∧ Aside0 (kq ≤ k) ∧ Aside0 (Kd.R k26 26 w' w0.heap.size (fun k_ => (P0_ k_ ∨ w.heap.size ≤ k_)) (.slice Ao2 l0.length co2) x0_1) ∧ Aside0 (Kept w w' (fun k_ => P0_ k_)) ∧ Aside0 (Below w0.heap.size w0 w'))
 case atStart => exact ⟨(l0), (0), (by first | rfl | (simp; done) | (simp [*]; done)), H', ⟨Nat.le_refl _⟩, ⟨by (with_reducible repeat (first | apply uU | apply uS | apply uT)); exact HO0.out⟩, ⟨by repeat (first | (with_reducible first | exact HK.out | apply Kept.alloc | apply Kept.drewN | apply Kept.drew) | exact HK.out)⟩, ⟨pb HB⟩⟩
 case round =>
  clear H'
  try clear c2
  try clear p2
  obtain ⟨x0_1, x7_1, rfl, HA, HK1, HO_0, HK, HB⟩ := hrel
  have hl0_1 := (Kd.R_reads' HO_0.out).1
  rw [hl0_1] at HO_0
  (try simp only [hl0_1])
  cases gk with
  | zero => exact absurd HA.out (by simp [impl_ascending.l0])
  | succ k1 =>
   have H := HA.out
   clear HA
   simp only [impl_ascending.l0] at H
   by_cases c3 : x7_1 < (l0.length : Int)
   ·rw [if_pos c3] at H
    have c3b0 : decide (x7_1 < (l0.length : Int)) = true := decide_eq_true c3
    (try simp only [hl0_1] at c3b0)
    clear c3
    have H' := uD H
    clear H
    go_wp2
    go_loopg [4] k1 (fun kq v4 w' => ∃ (x0_2 : List (S26)) (x4_2 : Int), v4 = .int .i64 x4_2 ∧ Aside0 (impl_ascending.l1 kq x0_2 x4_2 (l0.length : Int) x7_1 = some r) ∧ Aside0 (kq ≤ k1) ∧ Aside0 (Kd.R k26 26 w' w0.heap.size (fun k_ => (P0_ k_ ∨ w.heap.size ≤ k_)) (.slice Ao2 x0_1.length co2) x0_2) ∧ Aside0 (Kept w w' (fun k_ => P0_ k_)) ∧ Aside0 (Below w0.heap.size w0 w'))
    case atStart => exact ⟨(x0_1), (x7_1), (by first | rfl | (simp; done) | (simp [*]; done)), H', ⟨Nat.le_refl _⟩, ⟨by (try simp only [hl0_1]); (with_reducible repeat (first | apply uU | apply uS | apply uT)); exact HO_0.out⟩, ⟨by repeat (first | (with_reducible first | exact HK.out | apply Kept.alloc | apply Kept.drewN | apply Kept.drew) | exact HK.out)⟩, ⟨pb HB⟩⟩
    case round =>
     clear H'
     try clear c2
     try clear p2
     try clear c3
     try clear c3b0
     try clear p2
     obtain ⟨x0_2, x4_2, rfl, HA, HK2, HO_0, HK, HB⟩ := hrel
     have hl0_2 := (Kd.R_reads' HO_0.out).1
     rw [hl0_2] at HO_0
     (try simp only [hl0_2])
     cases gk with
     | zero => exact absurd HA.out (by simp [impl_ascending.l1])
     | succ k2 =>
      have H := HA.out
      clear HA
      simp only [impl_ascending.l1] at H
      by_cases c4 : x4_2 > 0
      ·rw [if_pos c4] at H
       have c4b0 : decide (0 < x4_2) = true := decide_eq_true c4
       clear c4
       obtain ⟨ji5, hji5⟩ : ∃ j_ : Int, (wrap64 (x4_2 - 1)) = j_ := ⟨_, rfl⟩
       replace H : (if 0 ≤ (ji5) then (if (ji5) < (x0_2.length : Int) then ((impl_TagNumber.f ((rd_T26 x0_2 (ji5)).f0) ((rd_T26 x0_2 (ji5)).f1) ((rd_T26 x0_2 (ji5)).f2)).bind fun t174 => (if 0 ≤ x4_2 then (if x4_2 < (x0_2.length : Int) then ((impl_TagNumber.f ((rd_T26 x0_2 x4_2).f0) ((rd_T26 x0_2 x4_2).f1) ((rd_T26 x0_2 x4_2).f2)).bind fun t176 => (if t174 > t176 then (impl_ascending.l1 k2 ((x0_2.set ((ji5) : Int).toNat (⟨(rd_T26 x0_2 x4_2).f0, (rd_T26 x0_2 x4_2).f1, (rd_T26 x0_2 x4_2).f2⟩ : S26)).set (x4_2 : Int).toNat (⟨(rd_T26 x0_2 (ji5)).f0, (rd_T26 x0_2 (ji5)).f1, (rd_T26 x0_2 (ji5)).f2⟩ : S26)) ji5 (l0.length : Int) x7_1) else (impl_ascending.l0 k2 x0_2 (l0.length : Int) (wrap64 (x7_1 + 1))))) else (none)) else (none))) else (none)) else (none)) = some r := by first | (rw [hji5] at H; exact H) | (simp only [hji5] at H ⊢; exact H)
       have hji5w : (IntKind.i64.wrap (x4_2 - 1)) = ji5 := (uZ _).trans hji5
       by_cases c6 : 0 ≤ (ji5)
       ·rw [if_pos c6] at H
        have c6b0 : decide (0 ≤ (ji5)) = true := decide_eq_true c6
        clear c6
        by_cases c7 : (ji5) < (x0_2.length : Int)
        ·rw [if_pos c7] at H
         have c7b0 : decide ((ji5) < (x0_2.length : Int)) = true := decide_eq_true c7
         (try simp only [hl0_1, hl0_2] at c7b0)
         clear c7
         replace H := Option.bind_eq_some_iff.mp H
         obtain ⟨t174, A80, H⟩ := H
         replace H : (if 0 ≤ x4_2 then (if x4_2 < (x0_2.length : Int) then ((impl_TagNumber.f ((rd_T26 x0_2 x4_2).f0) ((rd_T26 x0_2 x4_2).f1) ((rd_T26 x0_2 x4_2).f2)).bind fun t176 => (if t174 > t176 then (impl_ascending.l1 k2 ((x0_2.set ((ji5) : Int).toNat (⟨(rd_T26 x0_2 x4_2).f0, (rd_T26 x0_2 x4_2).f1, (rd_T26 x0_2 x4_2).f2⟩ : S26)).set (x4_2 : Int).toNat (⟨(rd_T26 x0_2 (ji5)).f0, (rd_T26 x0_2 (ji5)).f1, (rd_T26 x0_2 (ji5)).f2⟩ : S26)) ji5 (l0.length : Int) x7_1) else (impl_ascending.l0 k2 x0_2 (l0.length : Int) (wrap64 (x7_1 + 1))))) else (none)) else (none)) = some r := H
         have A8 := uD A80
         clear A80
         by_cases c9 : 0 ≤ x4_2
         ·rw [if_pos c9] at H
          have c9b0 : decide (0 ≤ x4_2) = true := decide_eq_true c9
          clear c9
          by_cases c10 : x4_2 < (x0_2.length : Int)
          ·rw [if_pos c10] at H
           have c10b0 : decide (x4_2 < (x0_2.length : Int)) = true := decide_eq_true c10
           (try simp only [hl0_1, hl0_2] at c10b0)
           clear c10
           replace H := Option.bind_eq_some_iff.mp H
           obtain ⟨t176, A110, H⟩ := H
           replace H : (if t174 > t176 then (impl_ascending.l1 k2 ((x0_2.set ((ji5) : Int).toNat (⟨(rd_T26 x0_2 x4_2).f0, (rd_T26 x0_2 x4_2).f1, (rd_T26 x0_2 x4_2).f2⟩ : S26)).set (x4_2 : Int).toNat (⟨(rd_T26 x0_2 (ji5)).f0, (rd_T26 x0_2 (ji5)).f1, (rd_T26 x0_2 (ji5)).f2⟩ : S26)) ji5 (l0.length : Int) x7_1) else (impl_ascending.l0 k2 x0_2 (l0.length : Int) (wrap64 (x7_1 + 1)))) = some r := H
           have A11 := uD A110
           clear A110
           by_cases c12 : t174 > t176
           ·rw [if_pos c12] at H
            have c12b0 : decide (t176 < t174) = true := decide_eq_true c12
            clear c12
            obtain ⟨y179, hy179⟩ : ∃ y_ : List (S26), y_ = (x0_2.set ((ji5) : Int).toNat (⟨(rd_T26 x0_2 x4_2).f0, (rd_T26 x0_2 x4_2).f1, (rd_T26 x0_2 x4_2).f2⟩ : S26)) := ⟨_, rfl⟩
            replace H : (impl_ascending.l1 k2 (y179.set (x4_2 : Int).toNat (⟨(rd_T26 x0_2 (ji5)).f0, (rd_T26 x0_2 (ji5)).f1, (rd_T26 x0_2 (ji5)).f2⟩ : S26)) ji5 (l0.length : Int) x7_1) = some r := by first | (rw [hy179]; with_reducible exact H) | (have H2_ := (Option.bind_some _ _).symm.trans H; rw [hy179]; with_reducible exact H2_) | (have H2_ := (Option.bind_some _ _).symm.trans H; with_reducible exact H2_) | with_reducible exact H | (rw [hy179]; exact H) | exact H
            have Ny179 := uD hy179
            clear hy179
            obtain ⟨y180, hy180⟩ : ∃ y_ : List (S26), y_ = (y179.set (x4_2 : Int).toNat (⟨(rd_T26 x0_2 (ji5)).f0, (rd_T26 x0_2 (ji5)).f1, (rd_T26 x0_2 (ji5)).f2⟩ : S26)) := ⟨_, rfl⟩
            replace H : (impl_ascending.l1 k2 y180 ji5 (l0.length : Int) x7_1) = some r := by first | (rw [hy180]; with_reducible exact H) | (have H2_ := (Option.bind_some _ _).symm.trans H; rw [hy180]; with_reducible exact H2_) | (have H2_ := (Option.bind_some _ _).symm.trans H; with_reducible exact H2_) | with_reducible exact H | (rw [hy180]; exact H) | exact H
            have Ny180 := uD hy180
            clear hy180
            have H' := uD H
            clear H
            try go_wp2
            replace HO_0 := uD (uT HO_0.out)
            replace HK := uD (Kept.drew HK.out)
            replace HB := uD (uK HB.out)
            have p173 : 0 ≤ ((ji5) : Int) := of_decide_eq_true (by first | (with_reducible assumption) | assumption)
            have q173 : (ji5) < (x0_2.length : Int) := of_decide_eq_true (by first | (with_reducible assumption) | assumption)
            obtain ⟨ad173, e173, hx173_0, hx173_1, hx173_2⟩ := at_T26 (Kd.R_reads' HO_0.out).2.2 (ji5) p173 q173
            cases e173
            replace p173 := eq_true p173
            replace q173 := eq_true q173
            have p175 : 0 ≤ (x4_2 : Int) := of_decide_eq_true (by first | (with_reducible assumption) | assumption)
            have q175 : x4_2 < (x0_2.length : Int) := of_decide_eq_true (by first | (with_reducible assumption) | assumption)
            obtain ⟨ad175, e175, hx175_0, hx175_1, hx175_2⟩ := at_T26 (Kd.R_reads' HO_0.out).2.2 x4_2 p175 q175
            obtain rfl : ad173 = ad175 := (by injection e175)
            replace p175 := eq_true p175
            replace q175 := eq_true q175
            refine start_ (n := 16) (S := fun w' => w'.cell? (ad173.add (((ji5)).toNat * 3)) = some (.int .i64 ((rd_T26 x0_2 (ji5)).f0)) ∧ w'.cell? ⟨(ad173.add (((ji5)).toNat * 3)).block, (ad173.add (((ji5)).toNat * 3)).off + 1, none⟩ = some (.int .i64 ((rd_T26 x0_2 (ji5)).f1)) ∧ w'.cell? ⟨(ad173.add (((ji5)).toNat * 3)).block, (ad173.add (((ji5)).toNat * 3)).off + 2, none⟩ = some (.int .i64 ((rd_T26 x0_2 (ji5)).f2)) ∧ w'.cell? (ad173.add ((x4_2).toNat * 3)) = some (.int .i64 ((rd_T26 x0_2 x4_2).f0)) ∧ w'.cell? ⟨(ad173.add ((x4_2).toNat * 3)).block, (ad173.add ((x4_2).toNat * 3)).off + 1, none⟩ = some (.int .i64 ((rd_T26 x0_2 x4_2).f1)) ∧ w'.cell? ⟨(ad173.add ((x4_2).toNat * 3)).block, (ad173.add ((x4_2).toNat * 3)).off + 2, none⟩ = some (.int .i64 ((rd_T26 x0_2 x4_2).f2))) (ds := []) #[F,F,F,F,F,F,F,F,F,F,F,F,F,F,F,F] (by kernel_rfl) rfl rfl ⟨hx173_0, hx173_1, hx173_2, hx175_0, hx175_1, hx175_2⟩ (fun hHeld => ?_); refine with_tabW impl_ascending.tab5 impl_ascending.bits5 (fun HT_ HW_ => ?_)
            generalize wr.drew = w15 at HO_0 HK HB hx173_0 hx173_1 hx173_2 hx175_0 hx175_1 hx175_2 hHeld ⊢
            refine pu 0 (some 11) #[T,F,F,F,F,F,F,F,F,F,F,F,F,F,F,F] HT_ ?_
            refine pu 1 (some 12) #[T,T,F,F,F,F,F,F,F,F,F,F,F,F,F,F] HT_ ?_
            refine pu 2 (some 13) #[T,T,T,F,F,F,F,F,F,F,F,F,F,F,F,F] HT_ ?_
            refine pu 3 (some 14) #[T,T,T,T,F,F,F,F,F,F,F,F,F,F,F,F] HT_ ?_
            refine pu 4 (some 15) #[T,T,T,T,T,F,F,F,F,F,F,F,F,F,F,F] HT_ ?_
            refine pu 5 (some 16) #[T,T,T,T,T,T,F,F,F,F,F,F,F,F,F,F] HT_ ?_
            refine pu 6 (some 17) #[T,T,T,T,T,T,T,F,F,F,F,F,F,F,F,F] HT_ ?_
            refine pu 9 (some 20) #[T,T,T,T,T,T,T,F,F,T,F,F,F,F,F,F] HT_ ?_
            refine pu 10 (some 21) #[T,T,T,T,T,T,T,F,F,T,T,F,F,F,F,F] HT_ ?_
            refine pu 11 (some 22) #[T,T,T,T,T,T,T,F,F,T,T,T,F,F,F,F] HT_ ?_
            refine tk 7 (some 18) #[T,T,T,T,T,T,T,T,F,T,T,T,F,F,F,F] HT_ HW_ hHeld ?_
            refine tk 12 (some 23) #[T,T,T,T,T,T,T,T,F,T,T,T,T,F,F,F] HT_ HW_ hHeld ?_
            refine one_ (i := 8) (N := some 19) #[T,T,T,T,T,T,T,T,T,T,T,T,T,F,F,F] rfl rfl (one_of HT_.out (by kernel_rfl)) (by decide) (fun K hK => ?_)
            refine goes_ Try.func16 (by kernel_rfl) rfl #[.agg #[.int .i64 ((rd_T26 x0_2 (ji5)).f0), .int .i64 ((rd_T26 x0_2 (ji5)).f1), .int .i64 ((rd_T26 x0_2 (ji5)).f2)]] (by rfl) rfl rfl (by (try simp only [List.map_toArray, List.map_cons, List.map_nil]); first | done | (simp only [hji5]; rfl) | rfl | (simp only [List.length_drop, List.length_take]; rfl)) ?_
            with_reducible refine (impl_TagNumber.calls ((rd_T26 x0_2 (ji5)).f0) ((rd_T26 x0_2 (ji5)).f1) ((rd_T26 x0_2 (ji5)).f2) t174 _ A8.out).mono ?_
            rintro e w16 ⟨rfl, hb⟩
            have HS0_ := (hb.cell (World.block_lt_of_cell? _ _ (hHeld.1))).trans (hHeld.1)
            have HS1_ := (hb.cell (World.block_lt_of_cell? _ _ (hHeld.2.1))).trans (hHeld.2.1)
            have HS2_ := (hb.cell (World.block_lt_of_cell? _ _ (hHeld.2.2.1))).trans (hHeld.2.2.1)
            have HS3_ := (hb.cell (World.block_lt_of_cell? _ _ (hHeld.2.2.2.1))).trans (hHeld.2.2.2.1)
            have HS4_ := (hb.cell (World.block_lt_of_cell? _ _ (hHeld.2.2.2.2.1))).trans (hHeld.2.2.2.2.1)
            have HS5_ := (hb.cell (World.block_lt_of_cell? _ _ (hHeld.2.2.2.2.2))).trans (hHeld.2.2.2.2.2)
            refine ⟨_, rfl, ?_⟩
            replace HO_0 := uD (Kd.R_below (pr HO_0) hb)
            replace HK := uD (Kept.below (S := (fun k_ => P0_ k_)) (by repeat (first | (with_reducible first | exact HK.out | apply Kept.alloc | apply Kept.drewN | apply Kept.drew) | exact HK.out)) hb)
            replace HB := uD (uO (pb HB) hb)
            (try clear hb)
            (try clear hb2)
            (try clear hk)
            (try clear hi)
            refine hK.out _ _ ⟨HS0_, HS1_, HS2_, HS3_, HS4_, HS5_⟩ (fun hHeld => ?_)
            clear hK K
            refine norm_ (a' := ?_) ?_ ?_
            rotate_left
            ·show uc _ (some 19) _ = _
             simp only [uc, uA, uB, uC, uZ, ua]
             rfl
            refine one_ (i := 13) (N := some 24) #[T,T,T,T,T,T,T,T,T,T,T,T,T,T,F,F] rfl rfl (one_of HT_.out (by kernel_rfl)) (by decide) (fun K hK => ?_)
            refine goes_ Try.func16 (by kernel_rfl) rfl #[.agg #[.int .i64 ((rd_T26 x0_2 x4_2).f0), .int .i64 ((rd_T26 x0_2 x4_2).f1), .int .i64 ((rd_T26 x0_2 x4_2).f2)]] (by rfl) rfl rfl (by (try simp only [List.map_toArray, List.map_cons, List.map_nil]); first | done | rfl | (simp only [List.length_drop, List.length_take]; rfl)) ?_
            with_reducible refine (impl_TagNumber.calls ((rd_T26 x0_2 x4_2).f0) ((rd_T26 x0_2 x4_2).f1) ((rd_T26 x0_2 x4_2).f2) t176 _ A11.out).mono ?_
            rintro e w17 ⟨rfl, hb⟩
            have HS0_ := (hb.cell (World.block_lt_of_cell? _ _ (hHeld.1))).trans (hHeld.1)
            have HS1_ := (hb.cell (World.block_lt_of_cell? _ _ (hHeld.2.1))).trans (hHeld.2.1)
            have HS2_ := (hb.cell (World.block_lt_of_cell? _ _ (hHeld.2.2.1))).trans (hHeld.2.2.1)
            have HS3_ := (hb.cell (World.block_lt_of_cell? _ _ (hHeld.2.2.2.1))).trans (hHeld.2.2.2.1)
            have HS4_ := (hb.cell (World.block_lt_of_cell? _ _ (hHeld.2.2.2.2.1))).trans (hHeld.2.2.2.2.1)
            have HS5_ := (hb.cell (World.block_lt_of_cell? _ _ (hHeld.2.2.2.2.2))).trans (hHeld.2.2.2.2.2)
            refine ⟨_, rfl, ?_⟩
            replace HO_0 := uD (Kd.R_below (pr HO_0) hb)
            replace HK := uD (Kept.below (S := (fun k_ => P0_ k_)) (by repeat (first | (with_reducible first | exact HK.out | apply Kept.alloc | apply Kept.drewN | apply Kept.drew) | exact HK.out)) hb)
            replace HB := uD (uO (pb HB) hb)
            (try clear hb)
            (try clear hb2)
            (try clear hk)
            (try clear hi)
            refine hK.out _ _ ⟨HS0_, HS1_, HS2_, HS3_, HS4_, HS5_⟩ (fun hHeld => ?_)
            clear hK K
            refine norm_ (a' := ?_) ?_ ?_
            rotate_left
            ·show uc _ (some 24) _ = _
             simp only [uc, uA, uB, uC, uZ, ua]
             rfl
            refine pu 14 (some 25) #[T,T,T,T,T,T,T,T,T,T,T,T,T,T,T,F] HT_ ?_
            refine pu 15 (some 26) #[T,T,T,T,T,T,T,T,T,T,T,T,T,T,T,T] HT_ ?_
            refine done_ (done_of HT_.out (by kernel_rfl)) ?_
            try go_wp2
            replace HO_0 := uD (uT HO_0.out)
            replace HK := uD (Kept.drew HK.out)
            replace HB := uD (uK HB.out)
            have p177 : 0 ≤ (x4_2 : Int) := of_decide_eq_true (by first | (with_reducible assumption) | assumption)
            have q177 : x4_2 < (x0_2.length : Int) := of_decide_eq_true (by first | (with_reducible assumption) | assumption)
            obtain ⟨ad177, e177, hx177_0, hx177_1, hx177_2⟩ := at_T26 (Kd.R_reads' HO_0.out).2.2 x4_2 p177 q177
            obtain rfl : ad173 = ad177 := (by injection e177)
            replace p177 := eq_true p177
            replace q177 := eq_true q177
            have p178 : 0 ≤ ((ji5) : Int) := of_decide_eq_true (by first | (with_reducible assumption) | assumption)
            have q178 : (ji5) < (x0_2.length : Int) := of_decide_eq_true (by first | (with_reducible assumption) | assumption)
            obtain ⟨ad178, e178, hx178_0, hx178_1, hx178_2⟩ := at_T26 (Kd.R_reads' HO_0.out).2.2 (ji5) p178 q178
            obtain rfl : ad173 = ad178 := (by injection e178)
            replace p178 := eq_true p178
            replace q178 := eq_true q178
            have p13 : 0 ≤ ((ji5) : Int) := of_decide_eq_true (by first | (with_reducible assumption) | assumption)
            have q13 : ((ji5) : Int) < ((x0_2.length : Int) : Int) := of_decide_eq_true (by first | (with_reducible assumption) | assumption)
            obtain ⟨go13, co13, eo13, gb13, gl13, cl13, HG13⟩ := Kd.R_form HO_0.out (by omega)
            (first | cases eo13 | (injection eo13 with ea_ en_ ec_; (first | subst ea_ | (injection ea_ with ea_; subst ea_)); subst ec_; clear en_))
            have GB13 := uD gb13
            have GG13 := uD HG13
            clear gb13 gl13 HG13
            have HMgo13 := uD (show (P0_ go13 ∨ w.heap.size ≤ go13) from (HO_0.out.1 _ rfl))
            (first | simp only [add_plain] at hx173_0 | skip)
            (first | simp only [add_plain] at hx173_1 | skip)
            (first | simp only [add_plain] at hx173_2 | skip)
            (first | simp only [add_plain] at hx175_0 | skip)
            (first | simp only [add_plain] at hx175_1 | skip)
            (first | simp only [add_plain] at hx175_2 | skip)
            (first | simp only [add_plain] at hx177_0 | skip)
            (first | simp only [add_plain] at hx177_1 | skip)
            (first | simp only [add_plain] at hx177_2 | skip)
            (first | simp only [add_plain] at hx178_0 | skip)
            (first | simp only [add_plain] at hx178_1 | skip)
            (first | simp only [add_plain] at hx178_2 | skip)
            obtain ⟨ce13, hcl13, hM13, hcc13, hfr13⟩ := Kd.R_elem HO_0.out z26 ((ji5) : Int) p13 q13
            obtain rfl := k26_openM hM13
            have hx13_0 : World.cell? _ ⟨go13, ((ji5) : Int).toNat * 3, none⟩ = some (.int .i64 ((rd_T26 x0_2 (ji5)).f0)) := hcc13 0 _ rfl
            have hx13_1 : World.cell? _ ⟨go13, ((ji5) : Int).toNat * 3 + 1, none⟩ = some (.int .i64 ((rd_T26 x0_2 (ji5)).f1)) := hcc13 1 _ rfl
            have hx13_2 : World.cell? _ ⟨go13, ((ji5) : Int).toNat * 3 + 2, none⟩ = some (.int .i64 ((rd_T26 x0_2 (ji5)).f2)) := hcc13 2 _ rfl
            have hf13_0 : World.frozen? _ ⟨go13, ((ji5) : Int).toNat * 3, none⟩ = false := hfr13 0
            have hf13_1 : World.frozen? _ ⟨go13, ((ji5) : Int).toNat * 3 + 1, none⟩ = false := hfr13 1
            have hf13_2 : World.frozen? _ ⟨go13, ((ji5) : Int).toNat * 3 + 2, none⟩ = false := hfr13 2
            clear hcl13 hcc13 hfr13 hM13
            replace p13 := eq_true p13
            replace q13 := eq_true q13
            obtain ⟨ce19, hcl19, hM19, hcc19, hfr19⟩ := Kd.R_elem HO_0.out z26 ((ji5) : Int) (of_decide_eq_true (by first | (with_reducible assumption) | assumption)) (by have h_ : ((ji5) : Int) < ((x0_2.length : Int) : Int) := of_decide_eq_true (by first | (with_reducible assumption) | assumption); first | exact h_ | (have e_ := (Kd.R_reads' HO_0.out).1; omega) | simpa using h_)
            obtain rfl := k26_openM hM19
            have HP19 := (Kd.R_seg HO_0.out ((ji5) : Int) (of_decide_eq_true (by first | (with_reducible assumption) | assumption)) (by have h_ : ((ji5) : Int) < ((x0_2.length : Int) : Int) := of_decide_eq_true (by first | (with_reducible assumption) | assumption); first | exact h_ | (have e_ := (Kd.R_reads' HO_0.out).1; omega) | simpa using h_) (seg := [.int .i64 ((rd_T26 x0_2 x4_2).f0), .int .i64 ((rd_T26 x0_2 x4_2).f1), .int .i64 ((rd_T26 x0_2 x4_2).f2)]) (j := 0) hcl19 hcc19 (show 3 ≤ 3 from by decide) (x' := (⟨(rd_T26 x0_2 x4_2).f0, (rd_T26 x0_2 x4_2).f1, (rd_T26 x0_2 x4_2).f2⟩ : S26)) (k26_mkM _ _ _ (⟨(rd_T26 x0_2 x4_2).f0, (rd_T26 x0_2 x4_2).f1, (rd_T26 x0_2 x4_2).f2⟩ : S26) ) (fun _ hk => hk)).1
            rw [← Ny179.out] at HP19
            have HQ19 := uD HP19
            clear hcl19 hcc19 hfr19 hM19 HP19
            have p14 : 0 ≤ (x4_2 : Int) := of_decide_eq_true (by first | (with_reducible assumption) | assumption)
            have q14 : (x4_2 : Int) < ((x0_2.length : Int) : Int) := of_decide_eq_true (by first | (with_reducible assumption) | assumption)
            obtain ⟨ce14, hcl14, hM14, hcc14, hfr14⟩ := Kd.R_elem HQ19.out z26 (x4_2 : Int) p14 q14
            obtain rfl := k26_openM hM14
            have hx14_0 : World.cell? _ ⟨go13, (x4_2 : Int).toNat * 3, none⟩ = some (.int .i64 ((rd_T26 y179 x4_2).f0)) := hcc14 0 _ rfl
            have hx14_1 : World.cell? _ ⟨go13, (x4_2 : Int).toNat * 3 + 1, none⟩ = some (.int .i64 ((rd_T26 y179 x4_2).f1)) := hcc14 1 _ rfl
            have hx14_2 : World.cell? _ ⟨go13, (x4_2 : Int).toNat * 3 + 2, none⟩ = some (.int .i64 ((rd_T26 y179 x4_2).f2)) := hcc14 2 _ rfl
            have hf14_0 : World.frozen? _ ⟨go13, (x4_2 : Int).toNat * 3, none⟩ = false := hfr14 0
            have hf14_1 : World.frozen? _ ⟨go13, (x4_2 : Int).toNat * 3 + 1, none⟩ = false := hfr14 1
            have hf14_2 : World.frozen? _ ⟨go13, (x4_2 : Int).toNat * 3 + 2, none⟩ = false := hfr14 2
            clear hcl14 hcc14 hfr14 hM14
            replace p14 := eq_true p14
            replace q14 := eq_true q14
            obtain ⟨ce20, hcl20, hM20, hcc20, hfr20⟩ := Kd.R_elem HQ19.out z26 (x4_2 : Int) (of_decide_eq_true (by first | (with_reducible assumption) | assumption)) (by have h_ : (x4_2 : Int) < ((x0_2.length : Int) : Int) := of_decide_eq_true (by first | (with_reducible assumption) | assumption); first | exact h_ | (have e_ := (Kd.R_reads' HO_0.out).1; omega) | simpa using h_)
            obtain rfl := k26_openM hM20
            have HP20 := (Kd.R_seg HQ19.out (x4_2 : Int) (of_decide_eq_true (by first | (with_reducible assumption) | assumption)) (by have h_ : (x4_2 : Int) < ((x0_2.length : Int) : Int) := of_decide_eq_true (by first | (with_reducible assumption) | assumption); first | exact h_ | (have e_ := (Kd.R_reads' HO_0.out).1; omega) | simpa using h_) (seg := [.int .i64 ((rd_T26 x0_2 (ji5)).f0), .int .i64 ((rd_T26 x0_2 (ji5)).f1), .int .i64 ((rd_T26 x0_2 (ji5)).f2)]) (j := 0) hcl20 hcc20 (show 3 ≤ 3 from by decide) (x' := (⟨(rd_T26 x0_2 (ji5)).f0, (rd_T26 x0_2 (ji5)).f1, (rd_T26 x0_2 (ji5)).f2⟩ : S26)) (k26_mkM _ _ _ (⟨(rd_T26 x0_2 (ji5)).f0, (rd_T26 x0_2 (ji5)).f1, (rd_T26 x0_2 (ji5)).f2⟩ : S26) ) (fun _ hk => hk)).1
            rw [← Ny180.out] at HP20
            have HQ20 := uD HP20
            clear hcl20 hcc20 hfr20 hM20 HP20
            have hj1_ : ji5 ≠ x4_2 := by intro h_; have h2_ := hji5; unfold wrap64 at h2_; omega
            have hj2_ : ji5.toNat ≠ x4_2.toNat := by have h1_ : 0 ≤ x4_2 := of_eq_true p177; have h2_ : 0 ≤ ji5 := of_eq_true p178; omega
            have hj3_ := eq_false hj2_
            have hj4_ := eq_false (Ne.symm hj2_)
            have hj00_ := eq_false (show ¬ ji5.toNat * 3 = x4_2.toNat * 3 by omega)
            have hk00_ := eq_false (show ¬ x4_2.toNat * 3 = ji5.toNat * 3 by omega)
            have hj01_ := eq_false (show ¬ ji5.toNat * 3 = x4_2.toNat * 3 + 1 by omega)
            have hk01_ := eq_false (show ¬ x4_2.toNat * 3 = ji5.toNat * 3 + 1 by omega)
            have hj02_ := eq_false (show ¬ ji5.toNat * 3 = x4_2.toNat * 3 + 2 by omega)
            have hk02_ := eq_false (show ¬ x4_2.toNat * 3 = ji5.toNat * 3 + 2 by omega)
            have hj10_ := eq_false (show ¬ ji5.toNat * 3 + 1 = x4_2.toNat * 3 by omega)
            have hk10_ := eq_false (show ¬ x4_2.toNat * 3 + 1 = ji5.toNat * 3 by omega)
            have hj11_ := eq_false (show ¬ ji5.toNat * 3 + 1 = x4_2.toNat * 3 + 1 by omega)
            have hk11_ := eq_false (show ¬ x4_2.toNat * 3 + 1 = ji5.toNat * 3 + 1 by omega)
            have hj12_ := eq_false (show ¬ ji5.toNat * 3 + 1 = x4_2.toNat * 3 + 2 by omega)
            have hk12_ := eq_false (show ¬ x4_2.toNat * 3 + 1 = ji5.toNat * 3 + 2 by omega)
            have hj20_ := eq_false (show ¬ ji5.toNat * 3 + 2 = x4_2.toNat * 3 by omega)
            have hk20_ := eq_false (show ¬ x4_2.toNat * 3 + 2 = ji5.toNat * 3 by omega)
            have hj21_ := eq_false (show ¬ ji5.toNat * 3 + 2 = x4_2.toNat * 3 + 1 by omega)
            have hk21_ := eq_false (show ¬ x4_2.toNat * 3 + 2 = ji5.toNat * 3 + 1 by omega)
            have hj22_ := eq_false (show ¬ ji5.toNat * 3 + 2 = x4_2.toNat * 3 + 2 by omega)
            have hk22_ := eq_false (show ¬ x4_2.toNat * 3 + 2 = ji5.toNat * 3 + 2 by omega)
            clear hj1_ hj2_
            refine start_ (n := 18) (S := fun w' => w'.cell? ⟨go13, ((x4_2).toNat * 3), none⟩ = some (.int .i64 ((rd_T26 x0_2 x4_2).f0)) ∧ w'.cell? ⟨go13, ((x4_2).toNat * 3) + 1, none⟩ = some (.int .i64 ((rd_T26 x0_2 x4_2).f1)) ∧ w'.cell? ⟨go13, ((x4_2).toNat * 3) + 2, none⟩ = some (.int .i64 ((rd_T26 x0_2 x4_2).f2)) ∧ w'.cell? ⟨go13, (((ji5)).toNat * 3), none⟩ = some (.int .i64 ((rd_T26 x0_2 (ji5)).f0)) ∧ w'.cell? ⟨go13, (((ji5)).toNat * 3) + 1, none⟩ = some (.int .i64 ((rd_T26 x0_2 (ji5)).f1)) ∧ w'.cell? ⟨go13, (((ji5)).toNat * 3) + 2, none⟩ = some (.int .i64 ((rd_T26 x0_2 (ji5)).f2))) (ds := [15, 17]) #[F,F,F,F,F,F,F,F,F,F,F,F,F,F,F,F,F,F] (by kernel_rfl) rfl rfl ⟨hx177_0, hx177_1, hx177_2, hx178_0, hx178_1, hx178_2⟩ (fun hHeld => ?_); refine with_tabW impl_ascending.tab7 impl_ascending.bits7 (fun HT_ HW_ => ?_)
            generalize w17.drew = w18 at HO_0 HK HB GG13 HQ19 HQ20 hf13_0 hf13_1 hf13_2 hf14_0 hf14_1 hf14_2 hx13_0 hx13_1 hx13_2 hx14_0 hx14_1 hx14_2 hx173_0 hx173_1 hx173_2 hx175_0 hx175_1 hx175_2 hx177_0 hx177_1 hx177_2 hx178_0 hx178_1 hx178_2 hHeld ⊢
            obtain ⟨cx_, hclx_, hMx_, hccx_, hfrx_⟩ := Kd.R_elem HO_0.out z26 (x4_2 : Int) (of_eq_true p177) (of_eq_true q177)
            have hfx0_ : World.frozen? _ ⟨go13, (x4_2 : Int).toNat * 3, none⟩ = false := hfrx_ 0
            have hfx1_ : World.frozen? _ ⟨go13, (x4_2 : Int).toNat * 3 + 1, none⟩ = false := hfrx_ 1
            have hfx2_ : World.frozen? _ ⟨go13, (x4_2 : Int).toNat * 3 + 2, none⟩ = false := hfrx_ 2
            clear hclx_ hMx_ hccx_ hfrx_
            refine pu 0 (some 29) #[T,F,F,F,F,F,F,F,F,F,F,F,F,F,F,F,F,F] HT_ ?_
            refine pu 1 (some 30) #[T,T,F,F,F,F,F,F,F,F,F,F,F,F,F,F,F,F] HT_ ?_
            refine pu 2 (some 31) #[T,T,T,F,F,F,F,F,F,F,F,F,F,F,F,F,F,F] HT_ ?_
            refine pu 3 (some 32) #[T,T,T,T,F,F,F,F,F,F,F,F,F,F,F,F,F,F] HT_ ?_
            refine pu 4 (some 33) #[T,T,T,T,T,F,F,F,F,F,F,F,F,F,F,F,F,F] HT_ ?_
            refine pu 5 (some 34) #[T,T,T,T,T,T,F,F,F,F,F,F,F,F,F,F,F,F] HT_ ?_
            refine pu 6 (some 35) #[T,T,T,T,T,T,T,F,F,F,F,F,F,F,F,F,F,F] HT_ ?_
            refine pu 7 (some 36) #[T,T,T,T,T,T,T,T,F,F,F,F,F,F,F,F,F,F] HT_ ?_
            refine pu 9 (some 38) #[T,T,T,T,T,T,T,T,F,T,F,F,F,F,F,F,F,F] HT_ ?_
            refine pu 10 (some 39) #[T,T,T,T,T,T,T,T,F,T,T,F,F,F,F,F,F,F] HT_ ?_
            refine pu 11 (some 40) #[T,T,T,T,T,T,T,T,F,T,T,T,F,F,F,F,F,F] HT_ ?_
            refine pu 12 (some 41) #[T,T,T,T,T,T,T,T,F,T,T,T,T,F,F,F,F,F] HT_ ?_
            refine tk 8 (some 37) #[T,T,T,T,T,T,T,T,T,T,T,T,T,F,F,F,F,F] HT_ HW_ hHeld ?_
            refine tk 13 (some 42) #[T,T,T,T,T,T,T,T,T,T,T,T,T,T,F,F,F,F] HT_ HW_ hHeld ?_
            refine pu 14 (some 43) #[T,T,T,T,T,T,T,T,T,T,T,T,T,T,T,F,F,F] HT_ ?_
            refine last_ (i := 15) (N := none) #[T,T,T,T,T,T,T,T,T,T,T,T,T,T,T,T,F,F] rfl rfl (one_of HT_.out (by kernel_rfl)) (by decide) (fun K hK => ?_)
            refine skip_ (w1 := ?_) (by rfl) rfl ?_ ?_
            rotate_left
            ·go_simp
             rfl
            refine hK.out _ _ ?_
            clear hK K
            refine pu 16 (some 44) #[T,T,T,T,T,T,T,T,T,T,T,T,T,T,T,T,T,F] HT_ ?_
            refine last_ (i := 17) (N := none) #[T,T,T,T,T,T,T,T,T,T,T,T,T,T,T,T,T,T] rfl rfl (one_of HT_.out (by kernel_rfl)) (by decide) (fun K hK => ?_)
            refine skip_ (w1 := ?_) (by rfl) rfl ?_ ?_
            rotate_left
            ·go_simp
             rfl
            refine hK.out _ _ ?_
            clear hK K
            refine done_ (done_of HT_.out (by kernel_rfl)) ?_
            try go_wp2
            (try simp only [← hl0_2])
            go_roundg k2
            case measure => have := HK1.out; have := HK2.out; omega
            case rel => exact ⟨(y180), (ji5), (by first | rfl | (simp; done) | (simp only [← hji5] <;> (first | rfl | simp)) | (simp [*]; done)), H', ⟨by have := HK1.out; have := HK2.out; omega⟩, ⟨by (try simp only [hl0_1]); (try simp only [hl0_2]); (with_reducible repeat (first | apply uU | apply uS | apply uT)); exact HQ20.out⟩, ⟨by repeat (first | (with_reducible first | exact HK.out | apply Kept.alloc | apply Kept.drewN | apply Kept.drew | refine Kept.setCell ?_ HMgo13.out _ | refine Kept.setCell ?_ HMgo13.out _ | refine Kept.setCell ?_ HMgo13.out _ | refine Kept.setCell ?_ HMgo13.out _ | refine Kept.setCell ?_ HMgo13.out _ | refine Kept.setCell ?_ HMgo13.out _) | exact HK.out)⟩, ⟨by repeat (first | (with_reducible first | exact HB.out | apply uL | apply uE | apply uK | refine uM ?_ GB13.out | refine uM ?_ GB13.out | refine uM ?_ GB13.out | refine uM ?_ GB13.out | refine uM ?_ GB13.out | refine uM ?_ GB13.out) | exact HB.out)⟩⟩
           ·rw [if_neg c12] at H
            have c12b0 : decide (t176 < t174) = false := decide_eq_false c12
            clear c12
            have H' := uD H
            clear H
            try go_wp2
            replace HO_0 := uD (uT HO_0.out)
            replace HK := uD (Kept.drew HK.out)
            replace HB := uD (uK HB.out)
            have p173 : 0 ≤ ((ji5) : Int) := of_decide_eq_true (by first | (with_reducible assumption) | assumption)
            have q173 : (ji5) < (x0_2.length : Int) := of_decide_eq_true (by first | (with_reducible assumption) | assumption)
            obtain ⟨ad173, e173, hx173_0, hx173_1, hx173_2⟩ := at_T26 (Kd.R_reads' HO_0.out).2.2 (ji5) p173 q173
            cases e173
            replace p173 := eq_true p173
            replace q173 := eq_true q173
            have p175 : 0 ≤ (x4_2 : Int) := of_decide_eq_true (by first | (with_reducible assumption) | assumption)
            have q175 : x4_2 < (x0_2.length : Int) := of_decide_eq_true (by first | (with_reducible assumption) | assumption)
            obtain ⟨ad175, e175, hx175_0, hx175_1, hx175_2⟩ := at_T26 (Kd.R_reads' HO_0.out).2.2 x4_2 p175 q175
            obtain rfl : ad173 = ad175 := (by injection e175)
            replace p175 := eq_true p175
            replace q175 := eq_true q175
            refine start_ (n := 16) (S := fun w' => w'.cell? (ad173.add (((ji5)).toNat * 3)) = some (.int .i64 ((rd_T26 x0_2 (ji5)).f0)) ∧ w'.cell? ⟨(ad173.add (((ji5)).toNat * 3)).block, (ad173.add (((ji5)).toNat * 3)).off + 1, none⟩ = some (.int .i64 ((rd_T26 x0_2 (ji5)).f1)) ∧ w'.cell? ⟨(ad173.add (((ji5)).toNat * 3)).block, (ad173.add (((ji5)).toNat * 3)).off + 2, none⟩ = some (.int .i64 ((rd_T26 x0_2 (ji5)).f2)) ∧ w'.cell? (ad173.add ((x4_2).toNat * 3)) = some (.int .i64 ((rd_T26 x0_2 x4_2).f0)) ∧ w'.cell? ⟨(ad173.add ((x4_2).toNat * 3)).block, (ad173.add ((x4_2).toNat * 3)).off + 1, none⟩ = some (.int .i64 ((rd_T26 x0_2 x4_2).f1)) ∧ w'.cell? ⟨(ad173.add ((x4_2).toNat * 3)).block, (ad173.add ((x4_2).toNat * 3)).off + 2, none⟩ = some (.int .i64 ((rd_T26 x0_2 x4_2).f2))) (ds := []) #[F,F,F,F,F,F,F,F,F,F,F,F,F,F,F,F] (by kernel_rfl) rfl rfl ⟨hx173_0, hx173_1, hx173_2, hx175_0, hx175_1, hx175_2⟩ (fun hHeld => ?_); refine with_tabW impl_ascending.tab5 impl_ascending.bits5 (fun HT_ HW_ => ?_)
            generalize wr.drew = w21 at HO_0 HK HB hx173_0 hx173_1 hx173_2 hx175_0 hx175_1 hx175_2 hHeld ⊢
            refine pu 0 (some 11) #[T,F,F,F,F,F,F,F,F,F,F,F,F,F,F,F] HT_ ?_
            refine pu 1 (some 12) #[T,T,F,F,F,F,F,F,F,F,F,F,F,F,F,F] HT_ ?_
            refine pu 2 (some 13) #[T,T,T,F,F,F,F,F,F,F,F,F,F,F,F,F] HT_ ?_
            refine pu 3 (some 14) #[T,T,T,T,F,F,F,F,F,F,F,F,F,F,F,F] HT_ ?_
            refine pu 4 (some 15) #[T,T,T,T,T,F,F,F,F,F,F,F,F,F,F,F] HT_ ?_
            refine pu 5 (some 16) #[T,T,T,T,T,T,F,F,F,F,F,F,F,F,F,F] HT_ ?_
            refine pu 6 (some 17) #[T,T,T,T,T,T,T,F,F,F,F,F,F,F,F,F] HT_ ?_
            refine pu 9 (some 20) #[T,T,T,T,T,T,T,F,F,T,F,F,F,F,F,F] HT_ ?_
            refine pu 10 (some 21) #[T,T,T,T,T,T,T,F,F,T,T,F,F,F,F,F] HT_ ?_
            refine pu 11 (some 22) #[T,T,T,T,T,T,T,F,F,T,T,T,F,F,F,F] HT_ ?_
            refine tk 7 (some 18) #[T,T,T,T,T,T,T,T,F,T,T,T,F,F,F,F] HT_ HW_ hHeld ?_
            refine tk 12 (some 23) #[T,T,T,T,T,T,T,T,F,T,T,T,T,F,F,F] HT_ HW_ hHeld ?_
            refine one_ (i := 8) (N := some 19) #[T,T,T,T,T,T,T,T,T,T,T,T,T,F,F,F] rfl rfl (one_of HT_.out (by kernel_rfl)) (by decide) (fun K hK => ?_)
            refine goes_ Try.func16 (by kernel_rfl) rfl #[.agg #[.int .i64 ((rd_T26 x0_2 (ji5)).f0), .int .i64 ((rd_T26 x0_2 (ji5)).f1), .int .i64 ((rd_T26 x0_2 (ji5)).f2)]] (by rfl) rfl rfl (by (try simp only [List.map_toArray, List.map_cons, List.map_nil]); first | done | (simp only [hji5]; rfl) | rfl | (simp only [List.length_drop, List.length_take]; rfl)) ?_
            with_reducible refine (impl_TagNumber.calls ((rd_T26 x0_2 (ji5)).f0) ((rd_T26 x0_2 (ji5)).f1) ((rd_T26 x0_2 (ji5)).f2) t174 _ A8.out).mono ?_
            rintro e w22 ⟨rfl, hb⟩
            have HS0_ := (hb.cell (World.block_lt_of_cell? _ _ (hHeld.1))).trans (hHeld.1)
            have HS1_ := (hb.cell (World.block_lt_of_cell? _ _ (hHeld.2.1))).trans (hHeld.2.1)
            have HS2_ := (hb.cell (World.block_lt_of_cell? _ _ (hHeld.2.2.1))).trans (hHeld.2.2.1)
            have HS3_ := (hb.cell (World.block_lt_of_cell? _ _ (hHeld.2.2.2.1))).trans (hHeld.2.2.2.1)
            have HS4_ := (hb.cell (World.block_lt_of_cell? _ _ (hHeld.2.2.2.2.1))).trans (hHeld.2.2.2.2.1)
            have HS5_ := (hb.cell (World.block_lt_of_cell? _ _ (hHeld.2.2.2.2.2))).trans (hHeld.2.2.2.2.2)
            refine ⟨_, rfl, ?_⟩
            replace HO_0 := uD (Kd.R_below (pr HO_0) hb)
            replace HK := uD (Kept.below (S := (fun k_ => P0_ k_)) (by repeat (first | (with_reducible first | exact HK.out | apply Kept.alloc | apply Kept.drewN | apply Kept.drew) | exact HK.out)) hb)
            replace HB := uD (uO (pb HB) hb)
            (try clear hb)
            (try clear hb2)
            (try clear hk)
            (try clear hi)
            refine hK.out _ _ ⟨HS0_, HS1_, HS2_, HS3_, HS4_, HS5_⟩ (fun hHeld => ?_)
            clear hK K
            refine norm_ (a' := ?_) ?_ ?_
            rotate_left
            ·show uc _ (some 19) _ = _
             simp only [uc, uA, uB, uC, uZ, ua]
             rfl
            refine one_ (i := 13) (N := some 24) #[T,T,T,T,T,T,T,T,T,T,T,T,T,T,F,F] rfl rfl (one_of HT_.out (by kernel_rfl)) (by decide) (fun K hK => ?_)
            refine goes_ Try.func16 (by kernel_rfl) rfl #[.agg #[.int .i64 ((rd_T26 x0_2 x4_2).f0), .int .i64 ((rd_T26 x0_2 x4_2).f1), .int .i64 ((rd_T26 x0_2 x4_2).f2)]] (by rfl) rfl rfl (by (try simp only [List.map_toArray, List.map_cons, List.map_nil]); first | done | rfl | (simp only [List.length_drop, List.length_take]; rfl)) ?_
            with_reducible refine (impl_TagNumber.calls ((rd_T26 x0_2 x4_2).f0) ((rd_T26 x0_2 x4_2).f1) ((rd_T26 x0_2 x4_2).f2) t176 _ A11.out).mono ?_
            rintro e w23 ⟨rfl, hb⟩
            have HS0_ := (hb.cell (World.block_lt_of_cell? _ _ (hHeld.1))).trans (hHeld.1)
            have HS1_ := (hb.cell (World.block_lt_of_cell? _ _ (hHeld.2.1))).trans (hHeld.2.1)
            have HS2_ := (hb.cell (World.block_lt_of_cell? _ _ (hHeld.2.2.1))).trans (hHeld.2.2.1)
            have HS3_ := (hb.cell (World.block_lt_of_cell? _ _ (hHeld.2.2.2.1))).trans (hHeld.2.2.2.1)
            have HS4_ := (hb.cell (World.block_lt_of_cell? _ _ (hHeld.2.2.2.2.1))).trans (hHeld.2.2.2.2.1)
            have HS5_ := (hb.cell (World.block_lt_of_cell? _ _ (hHeld.2.2.2.2.2))).trans (hHeld.2.2.2.2.2)
            refine ⟨_, rfl, ?_⟩
            replace HO_0 := uD (Kd.R_below (pr HO_0) hb)
            replace HK := uD (Kept.below (S := (fun k_ => P0_ k_)) (by repeat (first | (with_reducible first | exact HK.out | apply Kept.alloc | apply Kept.drewN | apply Kept.drew) | exact HK.out)) hb)
            replace HB := uD (uO (pb HB) hb)
            (try clear hb)
            (try clear hb2)
            (try clear hk)
            (try clear hi)
            refine hK.out _ _ ⟨HS0_, HS1_, HS2_, HS3_, HS4_, HS5_⟩ (fun hHeld => ?_)
            clear hK K
            refine norm_ (a' := ?_) ?_ ?_
            rotate_left
            ·show uc _ (some 24) _ = _
             simp only [uc, uA, uB, uC, uZ, ua]
             rfl
            refine pu 14 (some 25) #[T,T,T,T,T,T,T,T,T,T,T,T,T,T,T,F] HT_ ?_
            refine pu 15 (some 26) #[T,T,T,T,T,T,T,T,T,T,T,T,T,T,T,T] HT_ ?_
            refine done_ (done_of HT_.out (by kernel_rfl)) ?_
            try go_wp2
            (try simp only [← hl0_1, ← hl0_2])
            go_roundg k2
            case measure => have := HK1.out; have := HK2.out; omega
            case rel => exact ⟨(x0_2), (wrap64 (x7_1 + 1)), (by first | rfl | (simp; done) | (simp [*]; done)), H', ⟨by have := HK1.out; have := HK2.out; omega⟩, ⟨by (try simp only [hl0_1]); (try simp only [hl0_2]); (with_reducible repeat (first | apply uU | apply uS | apply uT)); exact HO_0.out⟩, ⟨by repeat (first | (with_reducible first | exact HK.out | apply Kept.alloc | apply Kept.drewN | apply Kept.drew) | exact HK.out)⟩, ⟨pb HB⟩⟩
          ·rw [if_neg c10] at H
           exact absurd H (by simp)
         ·rw [if_neg c9] at H
          exact absurd H (by simp)
        ·rw [if_neg c7] at H
         exact absurd H (by simp)
       ·rw [if_neg c6] at H
        exact absurd H (by simp)
      ·rw [if_neg c4] at H
       have c4b0 : decide (0 < x4_2) = false := decide_eq_false c4
       clear c4
       have H' := uD H
       clear H
       try go_wp2
       replace HO_0 := uD (uT HO_0.out)
       replace HK := uD (Kept.drew HK.out)
       replace HB := uD (uK HB.out)
       refine start_ (n := 16) (S := fun w' => True) (ds := []) #[F,F,F,F,F,F,F,F,F,F,F,F,F,F,F,F] (by kernel_rfl) rfl rfl trivial (fun hHeld => ?_); refine with_tabW impl_ascending.tab5 impl_ascending.bits5 (fun HT_ HW_ => ?_)
       generalize wr.drew = w24 at HO_0 HK HB hHeld ⊢
       refine pu 0 (some 11) #[T,F,F,F,F,F,F,F,F,F,F,F,F,F,F,F] HT_ ?_
       refine pu 1 (some 12) #[T,T,F,F,F,F,F,F,F,F,F,F,F,F,F,F] HT_ ?_
       refine pu 2 (some 13) #[T,T,T,F,F,F,F,F,F,F,F,F,F,F,F,F] HT_ ?_
       refine ub (i := 3) (N := some 14) (v := undef) (a' := ?_) #[T,T,T,T,F,F,F,F,F,F,F,F,F,F,F,F] rfl rfl (uY HT_.out (by kernel_rfl)) (fun _ _ _ h => h) (Or.inr ⟨by rfl, rfl⟩) ?_ ?_
       rotate_left
       ·simp only [uc, uA, uB, uC, uZ, ua]
        rfl
       refine ub (i := 4) (N := some 15) (v := undef) (a' := ?_) #[T,T,T,T,T,F,F,F,F,F,F,F,F,F,F,F] rfl rfl (uY HT_.out (by kernel_rfl)) (fun _ _ _ h => h) (Or.inr ⟨by rfl, rfl⟩) ?_ ?_
       rotate_left
       ·simp only [uc, uA, uB, uC, uZ, ua]
        rfl
       refine ub (i := 5) (N := some 16) (v := undef) (a' := ?_) #[T,T,T,T,T,T,F,F,F,F,F,F,F,F,F,F] rfl rfl (uY HT_.out (by kernel_rfl)) (fun _ _ _ h => h) (Or.inr ⟨by rfl, rfl⟩) ?_ ?_
       rotate_left
       ·simp only [uc, uA, uB, uC, uZ, ua]
        rfl
       refine ub (i := 6) (N := some 17) (v := undef) (a' := ?_) #[T,T,T,T,T,T,T,F,F,F,F,F,F,F,F,F] rfl rfl (uY HT_.out (by kernel_rfl)) (fun _ _ _ h => h) (Or.inr ⟨by rfl, rfl⟩) ?_ ?_
       rotate_left
       ·simp only [uc, uA, uB, uC, uZ, ua]
        rfl
       refine ub (i := 7) (N := some 18) (v := undef) (a' := ?_) #[T,T,T,T,T,T,T,T,F,F,F,F,F,F,F,F] rfl rfl (uY HT_.out (by kernel_rfl)) (fun _ _ _ h => h) (Or.inr ⟨by rfl, rfl⟩) ?_ ?_
       rotate_left
       ·simp only [uc, uA, uB, uC, uZ, ua]
        rfl
       refine ub (i := 8) (N := some 19) (v := undef) (a' := ?_) #[T,T,T,T,T,T,T,T,T,F,F,F,F,F,F,F] rfl rfl (uY HT_.out (by kernel_rfl)) (fun _ _ _ h => h) (Or.inr ⟨by rfl, rfl⟩) ?_ ?_
       rotate_left
       ·simp only [uc, uA, uB, uC, uZ, ua]
        rfl
       refine ub (i := 9) (N := some 20) (v := undef) (a' := ?_) #[T,T,T,T,T,T,T,T,T,T,F,F,F,F,F,F] rfl rfl (uY HT_.out (by kernel_rfl)) (fun _ _ _ h => h) (Or.inr ⟨by rfl, rfl⟩) ?_ ?_
       rotate_left
       ·simp only [uc, uA, uB, uC, uZ, ua]
        rfl
       refine ub (i := 10) (N := some 21) (v := undef) (a' := ?_) #[T,T,T,T,T,T,T,T,T,T,T,F,F,F,F,F] rfl rfl (uY HT_.out (by kernel_rfl)) (fun _ _ _ h => h) (Or.inr ⟨by rfl, rfl⟩) ?_ ?_
       rotate_left
       ·simp only [uc, uA, uB, uC, uZ, ua]
        rfl
       refine ub (i := 11) (N := some 22) (v := undef) (a' := ?_) #[T,T,T,T,T,T,T,T,T,T,T,T,F,F,F,F] rfl rfl (uY HT_.out (by kernel_rfl)) (fun _ _ _ h => h) (Or.inr ⟨by rfl, rfl⟩) ?_ ?_
       rotate_left
       ·simp only [uc, uA, uB, uC, uZ, ua]
        rfl
       refine ub (i := 12) (N := some 23) (v := undef) (a' := ?_) #[T,T,T,T,T,T,T,T,T,T,T,T,T,F,F,F] rfl rfl (uY HT_.out (by kernel_rfl)) (fun _ _ _ h => h) (Or.inr ⟨by rfl, rfl⟩) ?_ ?_
       rotate_left
       ·simp only [uc, uA, uB, uC, uZ, ua]
        rfl
       refine ub (i := 13) (N := some 24) (v := undef) (a' := ?_) #[T,T,T,T,T,T,T,T,T,T,T,T,T,T,F,F] rfl rfl (uY HT_.out (by kernel_rfl)) (fun _ _ _ h => h) (Or.inr ⟨by rfl, rfl⟩) ?_ ?_
       rotate_left
       ·simp only [uc, uA, uB, uC, uZ, ua]
        rfl
       refine ub (i := 14) (N := some 25) (v := undef) (a' := ?_) #[T,T,T,T,T,T,T,T,T,T,T,T,T,T,T,F] rfl rfl (uY HT_.out (by kernel_rfl)) (fun _ _ _ h => h) (Or.inr ⟨by rfl, rfl⟩) ?_ ?_
       rotate_left
       ·simp only [uc, uA, uB, uC, uZ, ua]
        rfl
       refine pu 15 (some 26) #[T,T,T,T,T,T,T,T,T,T,T,T,T,T,T,T] HT_ ?_
       refine done_ (done_of HT_.out (by kernel_rfl)) ?_
       try go_wp2
       (try simp only [← hl0_1, ← hl0_2])
       go_roundg k2
       case measure => have := HK1.out; have := HK2.out; omega
       case rel => exact ⟨(x0_2), (wrap64 (x7_1 + 1)), (by first | rfl | (simp; done) | (simp [*]; done)), H', ⟨by have := HK1.out; have := HK2.out; omega⟩, ⟨by (try simp only [hl0_1]); (try simp only [hl0_2]); (with_reducible repeat (first | apply uU | apply uS | apply uT)); exact HO_0.out⟩, ⟨by repeat (first | (with_reducible first | exact HK.out | apply Kept.alloc | apply Kept.drewN | apply Kept.drew) | exact HK.out)⟩, ⟨pb HB⟩⟩
   ·rw [if_neg c3] at H
    have c3b0 : decide (x7_1 < (l0.length : Int)) = false := decide_eq_false c3
    (try simp only [hl0_1] at c3b0)
    clear c3
    obtain rfl := Option.some.inj H
    go_wp2
    go_ret
    exact ⟨_, by first | rfl | (simp [errW_none, errW_some] <;> rfl) | (simp [*, errW_none, errW_some] <;> rfl), by (with_reducible repeat (first | apply uU | apply uS | apply uT)); exact HO_0.out, pb HB, by repeat (first | (with_reducible first | exact HK.out | apply Kept.alloc | apply Kept.drewN | apply Kept.drew) | exact HK.out)⟩

end Go.Proofs.Ytnkaimdcdedekaa.PFnExactNearTags
