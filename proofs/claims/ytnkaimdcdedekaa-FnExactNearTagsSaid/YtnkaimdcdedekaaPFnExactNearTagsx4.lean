-- Written by a program of this session (wip/myprint.py: the kit's print with changes): not by print.sh itself.
import Derived.Test.YtnkaimdcdedekaaPFnExactNearTagsx0
import Derived.Test.YtnkaimdcdedekaaPFnExactNearTagsx3
namespace Go.Proofs.Ytnkaimdcdedekaa.PFnExactNearTags
open Go.RowKit Go.Proofs.YtnkaimdcdedekaaW.PrintWords Go.Proofs.YtnkaimdcdedekaaW.PrintLast Go.Proofs.YtnkaimdcdedekaaW.PrintMore
open Go renaming Act.put → uc
open Go.Proofs.YtnkaimdcdedekaaW.PrintLast renaming any_of → uY, i64_w → uZ, i32_w → ua, pure_ → ub
open Go.Proofs.YtnkaimdcdedekaaW.PrintWords renaming Aside0.mk → uD, pw_below_drewN → uE, blk_cell → uF, blk_alloc → uG, blk_drewN → uH, blk_drew → uJ, below_drew1 → uK, below_alloc → uL, below_set → uM, below_size → uN, below_step → uO, blk_put → uP, Kd.R_drewN → uS, Kd.R_drew → uT, Kd.R_alloc → uU, Kd.R_far → uV, Kd.R_mono → uX
open List renaming setIfInBounds_toArray → uA, set_cons_zero → uB, set_cons_succ → uC
open Bool renaming true → T, false → F
attribute [local go_sem] max2_int min2_int max_two min_two max_three min_three max_four min_four   -- for this text's walks alone
set_option linter.unusedVariables false
set_option linter.unusedSimpArgs false

/-! ### impl_NearTags: function 6 -/
mutual
def impl_NearTags.l0 : Nat → Int → List (S26) → Int → Int → Int → Int → Option ((List (S26)))
 | 0, _, _, _, _, _, _ => none
 | k + 1, x3, x4, x5, x182000, x182001, x182002 => if x5 > 0 then (if x5 = 0 then (none) else (impl_NearTags.l1 k x3 x4 x5 (Int.tmod (wrap64 (Int.tdiv x3 x5)) 10) 0 x182000 x182001 x182002)) else ((impl_ascending.f k x4).bind fun t183 => (some t183))
def impl_NearTags.l1 : Nat → Int → List (S26) → Int → Int → Int → Int → Int → Int → Option ((List (S26)))
 | 0, _, _, _, _, _, _, _, _ => none
 | k + 1, x3, x4, x5, x6, x7, x182000, x182001, x182002 => if x7 ≤ 9 then ((impl_tagOf.f (wrap64 (x3 + (wrap64 ((wrap64 (x7 - x6)) * x5))))).bind fun bt186 => (if x7 = x6 then (impl_NearTags.l1 k x3 x4 x5 x6 (wrap64 (x7 + 1)) x182000 x182001 x182002) else ((impl_TagOk.f bt186.1 bt186.2.1 bt186.2.2).bind fun t190 => (if t190 = true then ((impl_TagCheck.f bt186.1 bt186.2.1 bt186.2.2).bind fun t191 => ((impl_TagCheck.f x182000 x182001 x182002).bind fun t192 => (if t191 = t192 then (if x4.length < 5864062014805 then (impl_NearTags.l1 k x3 (x4 ++ [(⟨bt186.1, bt186.2.1, bt186.2.2⟩ : S26)]) x5 x6 (wrap64 (x7 + 1)) x182000 x182001 x182002) else (none)) else (impl_NearTags.l1 k x3 x4 x5 x6 (wrap64 (x7 + 1)) x182000 x182001 x182002)))) else (impl_NearTags.l1 k x3 x4 x5 x6 (wrap64 (x7 + 1)) x182000 x182001 x182002))))) else (impl_NearTags.l0 k x3 x4 (wrap64 (Int.tdiv x5 10)) x182000 x182001 x182002)
end
def impl_NearTags.f (k : Nat) (a0_0 : Int) (a0_1 : Int) (a0_2 : Int) : Option ((List (S26))) := (impl_TagNumber.f a0_0 a0_1 a0_2).bind fun t182 => (if t182 < 0 then (some ([] : List (S26))) else (impl_NearTags.l0 k t182 ([] : List (S26)) 1000000000 a0_0 a0_1 a0_2))
theorem impl_NearTags.mono_l : ∀ k, (∀ y0 y1 y2 y3 y4 y5, LeO (impl_NearTags.l0 k y0 y1 y2 y3 y4 y5) (impl_NearTags.l0 (k + 1) y0 y1 y2 y3 y4 y5)) ∧ (∀ y0 y1 y2 y3 y4 y5 y6 y7, LeO (impl_NearTags.l1 k y0 y1 y2 y3 y4 y5 y6 y7) (impl_NearTags.l1 (k + 1) y0 y1 y2 y3 y4 y5 y6 y7))
 | 0 => ⟨fun _ _ _ _ _ _ r h => by simp [impl_NearTags.l0] at h, fun _ _ _ _ _ _ _ _ r h => by simp [impl_NearTags.l1] at h⟩
 | k + 1 => by
  obtain ⟨ih0, ih1⟩ := impl_NearTags.mono_l k
  refine ⟨?_, ?_⟩
  ·intro y0 y1 y2 y3 y4 y5
   unfold impl_NearTags.l0
   repeat' first
   | (with_reducible exact ih0 _ _ _ _ _ _)
   | (with_reducible exact ih1 _ _ _ _ _ _ _ _)
   | (with_reducible exact impl_ascending.mono _ _)
   | (with_reducible exact LeO.refl _)
   | (with_reducible exact LeO.none _)
   | (with_reducible refine LeO.ite ?_ ?_)
   | (with_reducible refine LeO.bind ?_ (fun _ => ?_))
   | exact ih0 _ _ _ _ _ _
   | exact ih1 _ _ _ _ _ _ _ _
   | exact impl_ascending.mono _ _
   | exact LeO.none _
   | refine LeO.ite ?_ ?_
   | refine LeO.bind ?_ (fun _ => ?_)
  ·intro y0 y1 y2 y3 y4 y5 y6 y7
   unfold impl_NearTags.l1
   repeat' first
   | (with_reducible exact ih0 _ _ _ _ _ _)
   | (with_reducible exact ih1 _ _ _ _ _ _ _ _)
   | (with_reducible exact impl_ascending.mono _ _)
   | (with_reducible exact LeO.refl _)
   | (with_reducible exact LeO.none _)
   | (with_reducible refine LeO.ite ?_ ?_)
   | (with_reducible refine LeO.bind ?_ (fun _ => ?_))
   | exact ih0 _ _ _ _ _ _
   | exact ih1 _ _ _ _ _ _ _ _
   | exact impl_ascending.mono _ _
   | exact LeO.none _
   | refine LeO.ite ?_ ?_
   | refine LeO.bind ?_ (fun _ => ?_)
theorem impl_NearTags.mono : ∀ a0 a1 a2 k, LeO (impl_NearTags.f k a0 a1 a2) (impl_NearTags.f (k + 1) a0 a1 a2) := by
 intro a0 a1 a2 k
 obtain ⟨ih0, ih1⟩ := impl_NearTags.mono_l k
 unfold impl_NearTags.f
 repeat' first
   | (with_reducible exact ih0 _ _ _ _ _ _)
   | (with_reducible exact ih1 _ _ _ _ _ _ _ _)
   | (with_reducible exact impl_ascending.mono _ _)
   | (with_reducible exact LeO.refl _)
   | (with_reducible exact LeO.none _)
   | (with_reducible refine LeO.ite ?_ ?_)
   | (with_reducible refine LeO.bind ?_ (fun _ => ?_))
   | exact ih0 _ _ _ _ _ _
   | exact ih1 _ _ _ _ _ _ _ _
   | exact impl_ascending.mono _ _
   | exact LeO.none _
   | refine LeO.ite ?_ ?_
   | refine LeO.bind ?_ (fun _ => ?_)
def impl_NearTags.T14 : Bool × List (List Nat × List Nat) := (true, [([], []), ([], []), ([0, 1], [0, 1]), ([2], [2]), ([3], [3]), ([4, 3, 3], [3, 4]), ([3, 5], [3, 5]), ([6, 5], [6]), ([7], [7]), ([8, 7, 7], [7, 8]), ([7], [7]), ([10, 9, 7], [7, 10]), ([9, 11, 7], [7, 9, 11]), ([7, 12], [7, 12])])
def impl_NearTags.B14 : List Nat := [0, 0, 3, 7, 15, 31, 63, 127, 255, 511, 255, 2047, 4095, 8191]
theorem impl_NearTags.tab14 : rtab .any (opsOf Try.f6 14) = impl_NearTags.T14 := by kernel_rfl
theorem impl_NearTags.bits14 : waitsOk impl_NearTags.T14.2 impl_NearTags.B14 = true := by kernel_rfl
set_option maxHeartbeats 8000000 in
set_option maxRecDepth 100000 in
theorem impl_NearTags.calls (k : Nat) (a0_0 : Int) (a0_1 : Int) (a0_2 : Int) (r : List (S26)) (w : World) (h : impl_NearTags.f k a0_0 a0_1 a0_2 = some r) :
  Calls Try.prog 6 #[.agg #[.int .i64 a0_0, .int .i64 a0_1, .int .i64 a0_2]] w fun e w' => ∃ v0_ : Value, e = .returned (v0_) ∧ Kd.R k26 26 w' w.heap.size (fun _ => True) v0_ r ∧ Below w.heap.size w w' := by
 have hu26 := Try.underlying26
 have HB := uD (Below.refl w.heap.size w)
 have H : ((impl_TagNumber.f a0_0 a0_1 a0_2).bind fun t182 => (if t182 < 0 then (some ([] : List (S26))) else (impl_NearTags.l0 k t182 ([] : List (S26)) 1000000000 a0_0 a0_1 a0_2))) = some r := h
 clear h
 replace H := Option.bind_eq_some_iff.mp H
 obtain ⟨t182, A20, H⟩ := H
 replace H : (if t182 < 0 then (some ([] : List (S26))) else (impl_NearTags.l0 k t182 ([] : List (S26)) 1000000000 a0_0 a0_1 a0_2)) = some r := H
 have A2 := uD A20
 clear A20
 by_cases c3 : t182 < 0
 ·rw [if_pos c3] at H
  have c3b0 : decide (t182 < 0) = true := decide_eq_true c3
  clear c3
  obtain rfl := Option.some.inj H
  go_enter Try.func6, Try.ntmps6
  go_wp2_with (first | ((with_reducible refine gate_dst (N := 1) rfl ?_); refine bx 1 #[.int .i64 a0_0, .int .i64 a0_1, .int .i64 a0_2] 26 ?_; intro gb181 hg w4 hbox hb; have BK181 := uD (hbox); have GW181 := uD ((by rw [hg]; exact (uN (pb HB)) : w.heap.size ≤ gb181)); have GE181 := uD ((by rw [hg]; exact (uN (pb HB)) : w.heap.size ≤ gb181)); replace HB := uD (uO (pb HB) hb); clear hb hbox hg; obtain ⟨hcz5_0, hcz5_1, hcz5_2, hfz5_0, hfz5_1, hfz5_2⟩ := cz3 BK181) | ((with_reducible refine gate_callee (f := 16) rfl ?_); refine gl (some 11) Try.func16 #[.agg #[.int .i64 a0_0, .int .i64 a0_1, .int .i64 a0_2]] ?_; (with_reducible refine (impl_TagNumber.calls a0_0 a0_1 a0_2 t182 _ A2.out).mono ?_); rintro e w6 ⟨rfl, hb⟩; refine ⟨_, rfl, ?_⟩; replace BK181 := uD (blk_below (pk BK181) hb); replace HB := uD (uO (pb HB) hb); (try clear hb); (try clear hb2); (try clear hk); (try clear hi)))
  go_ret
  exact ⟨_, by first | rfl | (simp [errW_none, errW_some] <;> rfl) | (simp [*, errW_none, errW_some] <;> rfl), by first | exact Kd.R_nil _ _ _ _ _ | exact Kd.N_nil _ _ _ _ _ | exact Kd.V_nil _ _ _ _ _ | exact Kd.Q_nil _ _ _ _ _ | exact Kd.S_nil _ _ _ _ _, pb HB⟩
 ·rw [if_neg c3] at H
  have c3b0 : decide (t182 < 0) = false := decide_eq_false c3
  clear c3
  have H' := uD H
  clear H
  go_enter Try.func6, Try.ntmps6
  go_wp2_with (first | ((with_reducible refine gate_dst (N := 1) rfl ?_); refine bx 1 #[.int .i64 a0_0, .int .i64 a0_1, .int .i64 a0_2] 26 ?_; intro gb181 hg w7 hbox hb; have BK181 := uD (hbox); have GW181 := uD ((by rw [hg]; exact (uN (pb HB)) : w.heap.size ≤ gb181)); have GE181 := uD ((by rw [hg]; exact (uN (pb HB)) : w.heap.size ≤ gb181)); replace HB := uD (uO (pb HB) hb); clear hb hbox hg; obtain ⟨hcz8_0, hcz8_1, hcz8_2, hfz8_0, hfz8_1, hfz8_2⟩ := cz3 BK181) | ((with_reducible refine gate_callee (f := 16) rfl ?_); refine gl (some 11) Try.func16 #[.agg #[.int .i64 a0_0, .int .i64 a0_1, .int .i64 a0_2]] ?_; (with_reducible refine (impl_TagNumber.calls a0_0 a0_1 a0_2 t182 _ A2.out).mono ?_); rintro e w9 ⟨rfl, hb⟩; refine ⟨_, rfl, ?_⟩; replace BK181 := uD (blk_below (pk BK181) hb); replace HB := uD (uO (pb HB) hb); (try clear hb); (try clear hb2); (try clear hk); (try clear hi)))
  go_loopg [4, 5] k (fun kq v4 v5 w' => ∃ (x4_1 : List (S26)) (x5_1 : Int), v5 = .int .i64 x5_1 ∧ Aside0 (impl_NearTags.l0 kq t182 x4_1 x5_1 a0_0 a0_1 a0_2 = some r) ∧ Aside0 (kq ≤ k) ∧ Aside0 (Kd.R k26 26 w' w.heap.size (fun k_ => k_ ≠ gb181) v4 x4_1) ∧ Aside0 (w'.heap[gb181]? = some (.cells #[.int .i64 a0_0, .int .i64 a0_1, .int .i64 a0_2] 26 (0, 0))) ∧ Aside0 (Below w.heap.size w w'))
  case atStart => exact ⟨(([] : List (S26))), (1000000000), (by first | rfl | (simp; done) | (simp [*]; done)), H', ⟨Nat.le_refl _⟩, ⟨by first | exact Kd.R_nil _ _ _ _ _ | exact Kd.N_nil _ _ _ _ _ | exact Kd.V_nil _ _ _ _ _ | exact Kd.Q_nil _ _ _ _ _ | exact Kd.S_nil _ _ _ _ _⟩, ⟨by (with_reducible repeat first|apply uH|apply uJ|apply uG); exact BK181.out⟩, ⟨pb HB⟩⟩
  case round =>
   clear H'
   try clear c1
   try clear p2
   try clear c3
   try clear c3b0
   try clear c6
   try clear hcz5_0
   try clear hcz5_1
   try clear hcz5_2
   try clear hcz8_0
   try clear hcz8_1
   try clear hcz8_2
   try clear hfz5_0
   try clear hfz5_1
   try clear hfz5_2
   try clear hfz8_0
   try clear hfz8_1
   try clear hfz8_2
   obtain ⟨x4_1, x5_1, rfl, HA, HK1, HO_4, BK181, HB⟩ := hrel
   cases gk with
   | zero => exact absurd HA.out (by simp [impl_NearTags.l0])
   | succ k1 =>
    have H := HA.out
    clear HA
    simp only [impl_NearTags.l0] at H
    by_cases c10 : x5_1 > 0
    ·rw [if_pos c10] at H
     have c10b0 : decide (0 < x5_1) = true := decide_eq_true c10
     clear c10
     by_cases c11 : x5_1 = 0
     ·rw [if_pos c11] at H
      exact absurd H (by simp)
     ·rw [if_neg c11] at H
      have c11b0 : (x5_1 == 0) = false := beq_eq_false_iff_ne.mpr c11
      have c11b1 : (x5_1 != 0) = true := bne_iff_ne.mpr c11
      have H' := uD H
      clear H
      go_wp2
      go_loopg [4, 7] k1 (fun kq v4 v7 w' => ∃ (x4_2 : List (S26)) (x7_2 : Int), v7 = .int .i64 x7_2 ∧ Aside0 (impl_NearTags.l1 kq t182 x4_2 x5_1 (Int.tmod (wrap64 (Int.tdiv t182 x5_1)) 10) x7_2 a0_0 a0_1 a0_2 = some r) ∧ Aside0 (kq ≤ k1) ∧ Aside0 (Kd.R k26 26 w' w.heap.size (fun k_ => k_ ≠ gb181) v4 x4_2) ∧ Aside0 (w'.heap[gb181]? = some (.cells #[.int .i64 a0_0, .int .i64 a0_1, .int .i64 a0_2] 26 (0, 0))) ∧ Aside0 (Below w.heap.size w w'))
      case atStart => exact ⟨(x4_1), (0), (by first | rfl | (simp; done) | (simp [*]; done)), H', ⟨Nat.le_refl _⟩, ⟨by (with_reducible repeat (first | apply uU | apply uS | apply uT)); exact HO_4.out⟩, ⟨by (with_reducible repeat first|apply uH|apply uJ|apply uG); exact BK181.out⟩, ⟨pb HB⟩⟩
      case round =>
       clear H'
       try clear c1
       try clear p2
       try clear c3
       try clear c3b0
       try clear c6
       try clear p6
       try clear c10
       try clear c10b0
       try clear c11
       try clear c11b0
       try clear c11b1
       try clear hcz5_0
       try clear hcz5_1
       try clear hcz5_2
       try clear hcz8_0
       try clear hcz8_1
       try clear hcz8_2
       try clear hfz5_0
       try clear hfz5_1
       try clear hfz5_2
       try clear hfz8_0
       try clear hfz8_1
       try clear hfz8_2
       try clear p2
       obtain ⟨x4_2, x7_2, rfl, HA, HK2, HO_4, BK181, HB⟩ := hrel
       cases gk with
       | zero => exact absurd HA.out (by simp [impl_NearTags.l1])
       | succ k2 =>
        have H := HA.out
        clear HA
        simp only [impl_NearTags.l1] at H
        by_cases c12 : x7_2 ≤ 9
        ·rw [if_pos c12] at H
         have c12b0 : decide (x7_2 ≤ 9) = true := decide_eq_true c12
         clear c12
         replace H := Option.bind_eq_some_iff.mp H
         obtain ⟨⟨t186, t187, t188⟩, A130, H⟩ := H
         replace H : (if x7_2 = (Int.tmod (wrap64 (Int.tdiv t182 x5_1)) 10) then (impl_NearTags.l1 k2 t182 x4_2 x5_1 (Int.tmod (wrap64 (Int.tdiv t182 x5_1)) 10) (wrap64 (x7_2 + 1)) a0_0 a0_1 a0_2) else ((impl_TagOk.f t186 t187 t188).bind fun t190 => (if t190 = true then ((impl_TagCheck.f t186 t187 t188).bind fun t191 => ((impl_TagCheck.f a0_0 a0_1 a0_2).bind fun t192 => (if t191 = t192 then (if x4_2.length < 5864062014805 then (impl_NearTags.l1 k2 t182 (x4_2 ++ [(⟨t186, t187, t188⟩ : S26)]) x5_1 (Int.tmod (wrap64 (Int.tdiv t182 x5_1)) 10) (wrap64 (x7_2 + 1)) a0_0 a0_1 a0_2) else (none)) else (impl_NearTags.l1 k2 t182 x4_2 x5_1 (Int.tmod (wrap64 (Int.tdiv t182 x5_1)) 10) (wrap64 (x7_2 + 1)) a0_0 a0_1 a0_2)))) else (impl_NearTags.l1 k2 t182 x4_2 x5_1 (Int.tmod (wrap64 (Int.tdiv t182 x5_1)) 10) (wrap64 (x7_2 + 1)) a0_0 a0_1 a0_2)))) = some r := H
         have A13 := uD A130
         clear A130
         by_cases c14 : x7_2 = (Int.tmod (wrap64 (Int.tdiv t182 x5_1)) 10)
         ·rw [if_pos c14] at H
          have c14b0 : (x7_2 == (Int.tmod (wrap64 (Int.tdiv t182 x5_1)) 10)) = true := beq_iff_eq.mpr c14
          have c14b1 : (x7_2 != (Int.tmod (wrap64 (Int.tdiv t182 x5_1)) 10)) = false := bne_eq_false_iff_eq.mpr c14
          clear c14
          have H' := uD H
          clear H
          try go_wp2_with (first | ((with_reducible refine gate_callee (f := 17) rfl ?_); refine gl (some 34) Try.func17 #[.int .i64 (wrap64 (t182 + (wrap64 ((wrap64 (x7_2 - (Int.tmod (wrap64 (Int.tdiv t182 x5_1)) 10))) * x5_1))))] ?_; (with_reducible refine (impl_tagOf.calls (wrap64 (t182 + (wrap64 ((wrap64 (x7_2 - (Int.tmod (wrap64 (Int.tdiv t182 x5_1)) 10))) * x5_1)))) t186 t187 t188 _ A13.out).mono ?_); rintro e w15 ⟨rfl, hb⟩; refine ⟨_, rfl, ?_⟩; replace HO_4 := uD (Kd.R_below (pr HO_4) hb); replace BK181 := uD (blk_below (pk BK181) hb); replace HB := uD (uO (pb HB) hb); (try clear hb); (try clear hb2); (try clear hk); (try clear hi)) | ((with_reducible refine gate_dst (N := 9) rfl ?_); refine bx 9 #[.int .i64 0, .int .i64 0, .int .i64 0] 26 ?_; intro gb189 hg w16 hbox hb; replace HO_4 := uD (Kd.R_below (Kd.R_elderB (pr HO_4) gb189 (Nat.le_of_eq hg.symm)) hb); have BK189 := uD (hbox); have GW189 := uD ((by rw [hg]; exact (uN (pb HB)) : w.heap.size ≤ gb189)); have GE189 := uD ((by rw [hg]; exact (uN (pb HB)) : w.heap.size ≤ gb189)); replace HB := uD (uO (pb HB) hb); have NB181_189 := uD ((by rw [hg]; exact Nat.ne_of_lt (blk_lt (pk BK181)) : gb181 ≠ gb189)); have NB189_181 := uD ((by rw [hg]; exact Nat.ne_of_gt (blk_lt (pk BK181)) : gb189 ≠ gb181)); replace BK181 := uD (blk_below (pk BK181) hb); clear hb hbox hg; have hnb17 := NB189_181.out; have hnc17 := NB181_189.out; obtain ⟨hcz18_0, hcz18_1, hcz18_2, hfz18_0, hfz18_1, hfz18_2⟩ := cz3 BK189))
          have n0_ : Aside0 (Kd.R k26 26 (((w16.setCell ⟨gb189, 0, none⟩ (.int .i64 t186)).setCell ⟨gb189, 1, none⟩ (.int .i64 t187)).setCell ⟨gb189, 2, none⟩ (.int .i64 t188)) w.heap.size (fun k_ => k_ ≠ gb181 ∧ k_ ≠ gb189) u4 x4_2) := ⟨by (with_reducible repeat (first | apply uU | apply uS | apply uT)); exact uX (uV (p := ⟨gb189, 2, none⟩) (uV (p := ⟨gb189, 1, none⟩) (uV (p := ⟨gb189, 0, none⟩) (uX HO_4.out (fun k_ hk => (⟨hk, hk.2⟩ : _ ∧ k_ ≠ gb189))) (fun _ hk => hk.2) (.int .i64 t186)) (fun _ hk => hk.2) (.int .i64 t187)) (fun _ hk => hk.2) (.int .i64 t188)) (fun _ hk => ⟨hk.1.1, hk.1.2⟩)⟩
          have n1_ : Aside0 ((((w16.setCell ⟨gb189, 0, none⟩ (.int .i64 t186)).setCell ⟨gb189, 1, none⟩ (.int .i64 t187)).setCell ⟨gb189, 2, none⟩ (.int .i64 t188)).heap[gb181]? = some (.cells #[.int .i64 a0_0, .int .i64 a0_1, .int .i64 a0_2] 26 (0, 0))) := ⟨by exact ps BK181⟩
          have n2_ : Aside0 ((((w16.setCell ⟨gb189, 0, none⟩ (.int .i64 t186)).setCell ⟨gb189, 1, none⟩ (.int .i64 t187)).setCell ⟨gb189, 2, none⟩ (.int .i64 t188)).heap[gb189]? = some (.cells #[.int .i64 t186, .int .i64 t187, .int .i64 t188] 26 (0, 0))) := ⟨by (with_reducible repeat first|apply uH|apply uJ|apply uG); refine uP (cs := #[.int .i64 t186, .int .i64 t187, .int .i64 0]) ?_ 2 _ rfl; (with_reducible repeat first|apply uH|apply uJ|apply uG); refine uP (cs := #[.int .i64 t186, .int .i64 0, .int .i64 0]) ?_ 1 _ rfl; (with_reducible repeat first|apply uH|apply uJ|apply uG); refine uP (cs := #[.int .i64 0, .int .i64 0, .int .i64 0]) ?_ 0 _ rfl; (with_reducible repeat first|apply uH|apply uJ|apply uG); exact BK189.out⟩
          have n3_ : Aside0 (Below w.heap.size w (((w16.setCell ⟨gb189, 0, none⟩ (.int .i64 t186)).setCell ⟨gb189, 1, none⟩ (.int .i64 t187)).setCell ⟨gb189, 2, none⟩ (.int .i64 t188))) := ⟨pb HB⟩
          (try clear HO_4)
          (try clear BK181)
          (try clear BK189)
          (try clear HB)
          generalize (((w16.setCell ⟨gb189, 0, none⟩ (.int .i64 t186)).setCell ⟨gb189, 1, none⟩ (.int .i64 t187)).setCell ⟨gb189, 2, none⟩ (.int .i64 t188)) = w19 at n0_ n1_ n2_ n3_ ⊢
          have HO_4 := n0_
          have BK181 := n1_
          have BK189 := n2_
          have HB := n3_
          clear n0_ n1_ n2_ n3_
          replace HO_4 := uD (uT HO_4.out)
          replace BK181 := uD (uJ BK181.out)
          replace BK189 := uD (uJ BK189.out)
          replace HB := uD (uK HB.out)
          refine start_ (n := 14) (S := fun w' => True) (ds := []) #[F,F,F,F,F,F,F,F,F,F,F,F,F,F] (by kernel_rfl) rfl rfl trivial (fun hHeld => ?_); refine with_tabW impl_NearTags.tab14 impl_NearTags.bits14 (fun HT_ HW_ => ?_)
          generalize w19.drew = w20 at HO_4 BK181 BK189 HB hHeld ⊢
          refine pu 0 (some 35) #[T,F,F,F,F,F,F,F,F,F,F,F,F,F] HT_ ?_
          refine pu 1 (some 36) #[T,T,F,F,F,F,F,F,F,F,F,F,F,F] HT_ ?_
          refine pu 2 (some 37) #[T,T,T,F,F,F,F,F,F,F,F,F,F,F] HT_ ?_
          refine pu 3 (some 38) #[T,T,T,T,F,F,F,F,F,F,F,F,F,F] HT_ ?_
          refine ub (i := 4) (N := some 39) (v := undef) (a' := ?_) #[T,T,T,T,T,F,F,F,F,F,F,F,F,F] rfl rfl (uY HT_.out (by kernel_rfl)) (fun _ _ _ h => h) (Or.inr ⟨by rfl, rfl⟩) ?_ ?_
          rotate_left
          ·simp only [uc, uA, uB, uC, uZ, ua]
           rfl
          refine ub (i := 5) (N := some 40) (v := undef) (a' := ?_) #[T,T,T,T,T,T,F,F,F,F,F,F,F,F] rfl rfl (uY HT_.out (by kernel_rfl)) (fun _ _ _ h => h) (Or.inr ⟨by rfl, rfl⟩) ?_ ?_
          rotate_left
          ·simp only [uc, uA, uB, uC, uZ, ua]
           rfl
          refine pu 6 (some 41) #[T,T,T,T,T,T,T,F,F,F,F,F,F,F] HT_ ?_
          refine pu 7 (some 42) #[T,T,T,T,T,T,T,T,F,F,F,F,F,F] HT_ ?_
          refine ub (i := 8) (N := some 43) (v := undef) (a' := ?_) #[T,T,T,T,T,T,T,T,T,F,F,F,F,F] rfl rfl (uY HT_.out (by kernel_rfl)) (fun _ _ _ h => h) (Or.inr ⟨by rfl, rfl⟩) ?_ ?_
          rotate_left
          ·simp only [uc, uA, uB, uC, uZ, ua]
           rfl
          refine ub (i := 9) (N := some 44) (v := undef) (a' := ?_) #[T,T,T,T,T,T,T,T,T,T,F,F,F,F] rfl rfl (uY HT_.out (by kernel_rfl)) (fun _ _ _ h => h) (Or.inr ⟨by rfl, rfl⟩) ?_ ?_
          rotate_left
          ·simp only [uc, uA, uB, uC, uZ, ua]
           rfl
          refine ub (i := 10) (N := some 45) (v := undef) (a' := ?_) #[T,T,T,T,T,T,T,T,T,T,T,F,F,F] rfl rfl (uY HT_.out (by kernel_rfl)) (fun _ _ _ h => h) (Or.inr ⟨by rfl, rfl⟩) ?_ ?_
          rotate_left
          ·simp only [uc, uA, uB, uC, uZ, ua]
           rfl
          refine ub (i := 11) (N := some 46) (v := undef) (a' := ?_) #[T,T,T,T,T,T,T,T,T,T,T,T,F,F] rfl rfl (uY HT_.out (by kernel_rfl)) (fun _ _ _ h => h) (Or.inr ⟨by rfl, rfl⟩) ?_ ?_
          rotate_left
          ·simp only [uc, uA, uB, uC, uZ, ua]
           rfl
          refine ub (i := 12) (N := some 47) (v := undef) (a' := ?_) #[T,T,T,T,T,T,T,T,T,T,T,T,T,F] rfl rfl (uY HT_.out (by kernel_rfl)) (fun _ _ _ h => h) (Or.inr ⟨by rfl, rfl⟩) ?_ ?_
          rotate_left
          ·simp only [uc, uA, uB, uC, uZ, ua]
           rfl
          refine pu 13 (some 48) #[T,T,T,T,T,T,T,T,T,T,T,T,T,T] HT_ ?_
          refine done_ (done_of HT_.out (by kernel_rfl)) ?_
          try go_wp2
          go_roundg k2
          case measure => have := HK1.out; have := HK2.out; omega
          case rel => exact ⟨(x4_2), (wrap64 (x7_2 + 1)), (by first | rfl | (simp; done) | (simp [*]; done)), H', ⟨by have := HK1.out; have := HK2.out; omega⟩, ⟨by (with_reducible repeat (first | apply uU | apply uS | apply uT)); exact uX HO_4.out (fun _ hk => hk.1)⟩, ⟨by (with_reducible repeat first|apply uH|apply uJ|apply uG); exact BK181.out⟩, ⟨pb HB⟩⟩
         ·rw [if_neg c14] at H
          have c14b0 : (x7_2 == (Int.tmod (wrap64 (Int.tdiv t182 x5_1)) 10)) = false := beq_eq_false_iff_ne.mpr c14
          have c14b1 : (x7_2 != (Int.tmod (wrap64 (Int.tdiv t182 x5_1)) 10)) = true := bne_iff_ne.mpr c14
          replace H := Option.bind_eq_some_iff.mp H
          obtain ⟨t190, A210, H⟩ := H
          replace H : (if t190 = true then ((impl_TagCheck.f t186 t187 t188).bind fun t191 => ((impl_TagCheck.f a0_0 a0_1 a0_2).bind fun t192 => (if t191 = t192 then (if x4_2.length < 5864062014805 then (impl_NearTags.l1 k2 t182 (x4_2 ++ [(⟨t186, t187, t188⟩ : S26)]) x5_1 (Int.tmod (wrap64 (Int.tdiv t182 x5_1)) 10) (wrap64 (x7_2 + 1)) a0_0 a0_1 a0_2) else (none)) else (impl_NearTags.l1 k2 t182 x4_2 x5_1 (Int.tmod (wrap64 (Int.tdiv t182 x5_1)) 10) (wrap64 (x7_2 + 1)) a0_0 a0_1 a0_2)))) else (impl_NearTags.l1 k2 t182 x4_2 x5_1 (Int.tmod (wrap64 (Int.tdiv t182 x5_1)) 10) (wrap64 (x7_2 + 1)) a0_0 a0_1 a0_2)) = some r := H
          have A21 := uD A210
          clear A210
          by_cases c22 : t190 = true
          ·subst c22
           have H1 : ((impl_TagCheck.f t186 t187 t188).bind fun t191 => ((impl_TagCheck.f a0_0 a0_1 a0_2).bind fun t192 => (if t191 = t192 then (if x4_2.length < 5864062014805 then (impl_NearTags.l1 k2 t182 (x4_2 ++ [(⟨t186, t187, t188⟩ : S26)]) x5_1 (Int.tmod (wrap64 (Int.tdiv t182 x5_1)) 10) (wrap64 (x7_2 + 1)) a0_0 a0_1 a0_2) else (none)) else (impl_NearTags.l1 k2 t182 x4_2 x5_1 (Int.tmod (wrap64 (Int.tdiv t182 x5_1)) 10) (wrap64 (x7_2 + 1)) a0_0 a0_1 a0_2)))) = some r := by rw [if_pos rfl] at H; first | done | exact H
           clear H
           have H := H1
           clear H1
           replace H := Option.bind_eq_some_iff.mp H
           obtain ⟨t191, A230, H⟩ := H
           replace H : ((impl_TagCheck.f a0_0 a0_1 a0_2).bind fun t192 => (if t191 = t192 then (if x4_2.length < 5864062014805 then (impl_NearTags.l1 k2 t182 (x4_2 ++ [(⟨t186, t187, t188⟩ : S26)]) x5_1 (Int.tmod (wrap64 (Int.tdiv t182 x5_1)) 10) (wrap64 (x7_2 + 1)) a0_0 a0_1 a0_2) else (none)) else (impl_NearTags.l1 k2 t182 x4_2 x5_1 (Int.tmod (wrap64 (Int.tdiv t182 x5_1)) 10) (wrap64 (x7_2 + 1)) a0_0 a0_1 a0_2))) = some r := H
           have A23 := uD A230
           clear A230
           replace H := Option.bind_eq_some_iff.mp H
           obtain ⟨t192, A240, H⟩ := H
           replace H : (if t191 = t192 then (if x4_2.length < 5864062014805 then (impl_NearTags.l1 k2 t182 (x4_2 ++ [(⟨t186, t187, t188⟩ : S26)]) x5_1 (Int.tmod (wrap64 (Int.tdiv t182 x5_1)) 10) (wrap64 (x7_2 + 1)) a0_0 a0_1 a0_2) else (none)) else (impl_NearTags.l1 k2 t182 x4_2 x5_1 (Int.tmod (wrap64 (Int.tdiv t182 x5_1)) 10) (wrap64 (x7_2 + 1)) a0_0 a0_1 a0_2)) = some r := H
           have A24 := uD A240
           clear A240
           by_cases c25 : t191 = t192
           ·rw [if_pos c25] at H
            have c25b0 : (t191 == t192) = true := beq_iff_eq.mpr c25
            have c25b1 : (t191 != t192) = false := bne_eq_false_iff_eq.mpr c25
            clear c25
            by_cases c26 : x4_2.length < 5864062014805
            ·rw [if_pos c26] at H
             have LMc26 := uD c26
             clear c26
             obtain ⟨y193, hy193⟩ : ∃ y_ : List (S26), y_ = (x4_2 ++ [(⟨t186, t187, t188⟩ : S26)]) := ⟨_, rfl⟩
             replace H : (impl_NearTags.l1 k2 t182 y193 x5_1 (Int.tmod (wrap64 (Int.tdiv t182 x5_1)) 10) (wrap64 (x7_2 + 1)) a0_0 a0_1 a0_2) = some r := by first | (rw [hy193]; with_reducible exact H) | (have H2_ := (Option.bind_some _ _).symm.trans H; rw [hy193]; with_reducible exact H2_) | (have H2_ := (Option.bind_some _ _).symm.trans H; with_reducible exact H2_) | with_reducible exact H | (rw [hy193]; exact H) | exact H
             have Ny193 := uD hy193
             clear hy193
             have H' := uD H
             clear H
             try go_wp2_with (first | ((with_reducible refine gate_callee (f := 17) rfl ?_); refine gl (some 34) Try.func17 #[.int .i64 (wrap64 (t182 + (wrap64 ((wrap64 (x7_2 - (Int.tmod (wrap64 (Int.tdiv t182 x5_1)) 10))) * x5_1))))] ?_; (with_reducible refine (impl_tagOf.calls (wrap64 (t182 + (wrap64 ((wrap64 (x7_2 - (Int.tmod (wrap64 (Int.tdiv t182 x5_1)) 10))) * x5_1)))) t186 t187 t188 _ A13.out).mono ?_); rintro e w27 ⟨rfl, hb⟩; refine ⟨_, rfl, ?_⟩; replace HO_4 := uD (Kd.R_below (pr HO_4) hb); replace BK181 := uD (blk_below (pk BK181) hb); replace HB := uD (uO (pb HB) hb); (try clear hb); (try clear hb2); (try clear hk); (try clear hi)) | ((with_reducible refine gate_dst (N := 9) rfl ?_); refine bx 9 #[.int .i64 0, .int .i64 0, .int .i64 0] 26 ?_; intro gb189 hg w28 hbox hb; replace HO_4 := uD (Kd.R_below (Kd.R_elderB (pr HO_4) gb189 (Nat.le_of_eq hg.symm)) hb); have BK189 := uD (hbox); have GW189 := uD ((by rw [hg]; exact (uN (pb HB)) : w.heap.size ≤ gb189)); have GE189 := uD ((by rw [hg]; exact (uN (pb HB)) : w.heap.size ≤ gb189)); replace HB := uD (uO (pb HB) hb); have NB181_189 := uD ((by rw [hg]; exact Nat.ne_of_lt (blk_lt (pk BK181)) : gb181 ≠ gb189)); have NB189_181 := uD ((by rw [hg]; exact Nat.ne_of_gt (blk_lt (pk BK181)) : gb189 ≠ gb181)); replace BK181 := uD (blk_below (pk BK181) hb); clear hb hbox hg; have hnb29 := NB189_181.out; have hnc29 := NB181_189.out; obtain ⟨hcz30_0, hcz30_1, hcz30_2, hfz30_0, hfz30_1, hfz30_2⟩ := cz3 BK189))
             have n0_ : Aside0 (Kd.R k26 26 (((w28.setCell ⟨gb189, 0, none⟩ (.int .i64 t186)).setCell ⟨gb189, 1, none⟩ (.int .i64 t187)).setCell ⟨gb189, 2, none⟩ (.int .i64 t188)) w.heap.size (fun k_ => k_ ≠ gb181 ∧ k_ ≠ gb189) u4 x4_2) := ⟨by (with_reducible repeat (first | apply uU | apply uS | apply uT)); exact uX (uV (p := ⟨gb189, 2, none⟩) (uV (p := ⟨gb189, 1, none⟩) (uV (p := ⟨gb189, 0, none⟩) (uX HO_4.out (fun k_ hk => (⟨hk, hk.2⟩ : _ ∧ k_ ≠ gb189))) (fun _ hk => hk.2) (.int .i64 t186)) (fun _ hk => hk.2) (.int .i64 t187)) (fun _ hk => hk.2) (.int .i64 t188)) (fun _ hk => ⟨hk.1.1, hk.1.2⟩)⟩
             have n1_ : Aside0 ((((w28.setCell ⟨gb189, 0, none⟩ (.int .i64 t186)).setCell ⟨gb189, 1, none⟩ (.int .i64 t187)).setCell ⟨gb189, 2, none⟩ (.int .i64 t188)).heap[gb181]? = some (.cells #[.int .i64 a0_0, .int .i64 a0_1, .int .i64 a0_2] 26 (0, 0))) := ⟨by exact ps BK181⟩
             have n2_ : Aside0 ((((w28.setCell ⟨gb189, 0, none⟩ (.int .i64 t186)).setCell ⟨gb189, 1, none⟩ (.int .i64 t187)).setCell ⟨gb189, 2, none⟩ (.int .i64 t188)).heap[gb189]? = some (.cells #[.int .i64 t186, .int .i64 t187, .int .i64 t188] 26 (0, 0))) := ⟨by (with_reducible repeat first|apply uH|apply uJ|apply uG); refine uP (cs := #[.int .i64 t186, .int .i64 t187, .int .i64 0]) ?_ 2 _ rfl; (with_reducible repeat first|apply uH|apply uJ|apply uG); refine uP (cs := #[.int .i64 t186, .int .i64 0, .int .i64 0]) ?_ 1 _ rfl; (with_reducible repeat first|apply uH|apply uJ|apply uG); refine uP (cs := #[.int .i64 0, .int .i64 0, .int .i64 0]) ?_ 0 _ rfl; (with_reducible repeat first|apply uH|apply uJ|apply uG); exact BK189.out⟩
             have n3_ : Aside0 (Below w.heap.size w (((w28.setCell ⟨gb189, 0, none⟩ (.int .i64 t186)).setCell ⟨gb189, 1, none⟩ (.int .i64 t187)).setCell ⟨gb189, 2, none⟩ (.int .i64 t188))) := ⟨pb HB⟩
             (try clear HO_4)
             (try clear BK181)
             (try clear BK189)
             (try clear HB)
             generalize (((w28.setCell ⟨gb189, 0, none⟩ (.int .i64 t186)).setCell ⟨gb189, 1, none⟩ (.int .i64 t187)).setCell ⟨gb189, 2, none⟩ (.int .i64 t188)) = w31 at n0_ n1_ n2_ n3_ ⊢
             have HO_4 := n0_
             have BK181 := n1_
             have BK189 := n2_
             have HB := n3_
             clear n0_ n1_ n2_ n3_
             replace HO_4 := uD (uT HO_4.out)
             replace BK181 := uD (uJ BK181.out)
             replace BK189 := uD (uJ BK189.out)
             replace HB := uD (uK HB.out)
             refine start_ (n := 14) (S := fun w' => w'.cell? ⟨gb189, 0, none⟩ = some (.int .i64 t186) ∧ w'.cell? ⟨gb189, 1, none⟩ = some (.int .i64 t187) ∧ w'.cell? ⟨gb189, 2, none⟩ = some (.int .i64 t188) ∧ w'.cell? ⟨gb181, 0, none⟩ = some (.int .i64 a0_0) ∧ w'.cell? ⟨gb181, 1, none⟩ = some (.int .i64 a0_1) ∧ w'.cell? ⟨gb181, 2, none⟩ = some (.int .i64 a0_2)) (ds := []) #[F,F,F,F,F,F,F,F,F,F,F,F,F,F] (by kernel_rfl) rfl rfl ⟨(uF BK189.out 0).trans rfl, (uF BK189.out 1).trans rfl, (uF BK189.out 2).trans rfl, (uF BK181.out 0).trans rfl, (uF BK181.out 1).trans rfl, (uF BK181.out 2).trans rfl⟩ (fun hHeld => ?_); refine with_tabW impl_NearTags.tab14 impl_NearTags.bits14 (fun HT_ HW_ => ?_)
             generalize w31.drew = w32 at HO_4 BK181 BK189 HB hHeld ⊢
             refine pu 0 (some 35) #[T,F,F,F,F,F,F,F,F,F,F,F,F,F] HT_ ?_
             refine pu 1 (some 36) #[T,T,F,F,F,F,F,F,F,F,F,F,F,F] HT_ ?_
             refine pu 2 (some 37) #[T,T,T,F,F,F,F,F,F,F,F,F,F,F] HT_ ?_
             refine pu 3 (some 38) #[T,T,T,T,F,F,F,F,F,F,F,F,F,F] HT_ ?_
             refine tk 4 (some 39) #[T,T,T,T,T,F,F,F,F,F,F,F,F,F] HT_ HW_ hHeld ?_
             refine one_ (i := 5) (N := some 40) #[T,T,T,T,T,T,F,F,F,F,F,F,F,F] rfl rfl (one_of HT_.out (by kernel_rfl)) (by decide) (fun K hK => ?_)
             refine goes_ Try.func18 (by kernel_rfl) rfl #[.agg #[.int .i64 t186, .int .i64 t187, .int .i64 t188]] (by rfl) rfl rfl (by (try simp only [List.map_toArray, List.map_cons, List.map_nil]); first | done | rfl | (simp only [List.length_drop, List.length_take]; rfl)) ?_
             with_reducible refine (impl_TagOk.calls t186 t187 t188 true _ A21.out).mono ?_
             rintro e w33 ⟨rfl, hb⟩
             refine ⟨_, rfl, ?_⟩
             replace HO_4 := uD (Kd.R_below (pr HO_4) hb)
             replace BK181 := uD (blk_below (pk BK181) hb)
             replace BK189 := uD (blk_below (pk BK189) hb)
             replace HB := uD (uO (pb HB) hb)
             (try clear hb)
             (try clear hb2)
             (try clear hk)
             (try clear hi)
             refine hK.out _ _ ⟨(uF BK189.out 0).trans rfl, (uF BK189.out 1).trans rfl, (uF BK189.out 2).trans rfl, (uF BK181.out 0).trans rfl, (uF BK181.out 1).trans rfl, (uF BK181.out 2).trans rfl⟩ (fun hHeld => ?_)
             clear hK K
             refine norm_ (a' := ?_) ?_ ?_
             rotate_left
             ·show uc _ (some 40) _ = _
              simp only [uc, uA, uB, uC, uZ, ua]
              rfl
             refine pu 6 (some 41) #[T,T,T,T,T,T,T,F,F,F,F,F,F,F] HT_ ?_
             refine pu 7 (some 42) #[T,T,T,T,T,T,T,T,F,F,F,F,F,F] HT_ ?_
             refine tk 8 (some 43) #[T,T,T,T,T,T,T,T,T,F,F,F,F,F] HT_ HW_ hHeld ?_
             refine tk 10 (some 45) #[T,T,T,T,T,T,T,T,T,F,T,F,F,F] HT_ HW_ hHeld ?_
             refine one_ (i := 9) (N := some 44) #[T,T,T,T,T,T,T,T,T,T,T,F,F,F] rfl rfl (one_of HT_.out (by kernel_rfl)) (by decide) (fun K hK => ?_)
             refine goes_ Try.func19 (by kernel_rfl) rfl #[.agg #[.int .i64 t186, .int .i64 t187, .int .i64 t188]] (by rfl) rfl rfl (by (try simp only [List.map_toArray, List.map_cons, List.map_nil]); first | done | rfl | (simp only [List.length_drop, List.length_take]; rfl)) ?_
             with_reducible refine (impl_TagCheck.calls t186 t187 t188 t191 _ A23.out).mono ?_
             rintro e w34 ⟨rfl, hb⟩
             refine ⟨_, rfl, ?_⟩
             replace HO_4 := uD (Kd.R_below (pr HO_4) hb)
             replace BK181 := uD (blk_below (pk BK181) hb)
             replace BK189 := uD (blk_below (pk BK189) hb)
             replace HB := uD (uO (pb HB) hb)
             (try clear hb)
             (try clear hb2)
             (try clear hk)
             (try clear hi)
             refine hK.out _ _ ⟨(uF BK189.out 0).trans rfl, (uF BK189.out 1).trans rfl, (uF BK189.out 2).trans rfl, (uF BK181.out 0).trans rfl, (uF BK181.out 1).trans rfl, (uF BK181.out 2).trans rfl⟩ (fun hHeld => ?_)
             clear hK K
             refine norm_ (a' := ?_) ?_ ?_
             rotate_left
             ·show uc _ (some 44) _ = _
              simp only [uc, uA, uB, uC, uZ, ua]
              rfl
             refine one_ (i := 11) (N := some 46) #[T,T,T,T,T,T,T,T,T,T,T,T,F,F] rfl rfl (one_of HT_.out (by kernel_rfl)) (by decide) (fun K hK => ?_)
             refine goes_ Try.func19 (by kernel_rfl) rfl #[.agg #[.int .i64 a0_0, .int .i64 a0_1, .int .i64 a0_2]] (by rfl) rfl rfl (by (try simp only [List.map_toArray, List.map_cons, List.map_nil]); first | done | rfl | (simp only [List.length_drop, List.length_take]; rfl)) ?_
             with_reducible refine (impl_TagCheck.calls a0_0 a0_1 a0_2 t192 _ A24.out).mono ?_
             rintro e w35 ⟨rfl, hb⟩
             refine ⟨_, rfl, ?_⟩
             replace HO_4 := uD (Kd.R_below (pr HO_4) hb)
             replace BK181 := uD (blk_below (pk BK181) hb)
             replace BK189 := uD (blk_below (pk BK189) hb)
             replace HB := uD (uO (pb HB) hb)
             (try clear hb)
             (try clear hb2)
             (try clear hk)
             (try clear hi)
             refine hK.out _ _ ⟨(uF BK189.out 0).trans rfl, (uF BK189.out 1).trans rfl, (uF BK189.out 2).trans rfl, (uF BK181.out 0).trans rfl, (uF BK181.out 1).trans rfl, (uF BK181.out 2).trans rfl⟩ (fun hHeld => ?_)
             clear hK K
             refine norm_ (a' := ?_) ?_ ?_
             rotate_left
             ·show uc _ (some 46) _ = _
              simp only [uc, uA, uB, uC, uZ, ua]
              rfl
             refine pu 12 (some 47) #[T,T,T,T,T,T,T,T,T,T,T,T,T,F] HT_ ?_
             refine pu 13 (some 48) #[T,T,T,T,T,T,T,T,T,T,T,T,T,T] HT_ ?_
             refine done_ (done_of HT_.out (by kernel_rfl)) ?_
             obtain ⟨hcz36_0, hcz36_1, hcz36_2, hfz36_0, hfz36_1, hfz36_2⟩ := cz3 BK189
             try go_wp2_with (first | ((with_reducible refine gate_builtin (b := .append) (xs := #[.tmp 49, .tmp 51]) rfl ?_); at_builtin; refine Kd.R_append k26 (w0 := w) w.heap.size rfl (.tmp 49) (.tmp 51) 24 26 (.agg #[(.int .i64 0), (.int .i64 0), (.int .i64 0)]) 24 rfl Try.underlying24 info26 rfl (by decide) (by omega) u4 x4_2 (⟨t186, t187, t188⟩ : S26) [.int .i64 t186, .int .i64 t187, .int .i64 t188] (fun k_ => k_ ≠ gb181 ∧ k_ ≠ gb189) (fun _ => False) rfl rfl ?aP (fun _ hk => hk.elim) ?aF ?aO ?aB ?aS ?aL ?_; (case aP => exact k26_mkM _ _ _ (⟨t186, t187, t188⟩ : S26)); (case aB => exact (pb HB)); (case aF => exact (fun k_ hk => ⟨Kd.freshB (pk BK181) k_ hk, Kd.freshB (pk BK189) k_ hk⟩)); (case aO => exact (pr HO_4)); (case aS => exact (uN (pb HB))); (case aL => have := LMc26.out; omega); intro v194 w37 ho hb hg hat; rw [← Ny193.out] at ho; replace BK181 := uD (blk_grown (pk BK181) hg (Kd.R_away HO_4.out (fun _ hk => hk.1))); replace BK189 := uD (blk_grown (pk BK189) hg (Kd.R_away HO_4.out (fun _ hk => hk.2))); replace HB := uD (hb); have HO195 := uD (ho); clear HO_4; clear ho hb hg hat))
             go_roundg k2
             case measure => have := HK1.out; have := HK2.out; omega
             case rel => exact ⟨(y193), (wrap64 (x7_2 + 1)), (by first | rfl | (simp; done) | (simp [*]; done)), H', ⟨by have := HK1.out; have := HK2.out; omega⟩, ⟨by (with_reducible repeat (first | apply uU | apply uS | apply uT)); exact uX HO195.out (fun _ hk => hk.1)⟩, ⟨by (with_reducible repeat first|apply uH|apply uJ|apply uG); exact BK181.out⟩, ⟨pb HB⟩⟩
            ·rw [if_neg c26] at H
             exact absurd H (by simp)
           ·rw [if_neg c25] at H
            have c25b0 : (t191 == t192) = false := beq_eq_false_iff_ne.mpr c25
            have c25b1 : (t191 != t192) = true := bne_iff_ne.mpr c25
            have H' := uD H
            clear H
            try go_wp2_with (first | ((with_reducible refine gate_callee (f := 17) rfl ?_); refine gl (some 34) Try.func17 #[.int .i64 (wrap64 (t182 + (wrap64 ((wrap64 (x7_2 - (Int.tmod (wrap64 (Int.tdiv t182 x5_1)) 10))) * x5_1))))] ?_; (with_reducible refine (impl_tagOf.calls (wrap64 (t182 + (wrap64 ((wrap64 (x7_2 - (Int.tmod (wrap64 (Int.tdiv t182 x5_1)) 10))) * x5_1)))) t186 t187 t188 _ A13.out).mono ?_); rintro e w38 ⟨rfl, hb⟩; refine ⟨_, rfl, ?_⟩; replace HO_4 := uD (Kd.R_below (pr HO_4) hb); replace BK181 := uD (blk_below (pk BK181) hb); replace HB := uD (uO (pb HB) hb); (try clear hb); (try clear hb2); (try clear hk); (try clear hi)) | ((with_reducible refine gate_dst (N := 9) rfl ?_); refine bx 9 #[.int .i64 0, .int .i64 0, .int .i64 0] 26 ?_; intro gb189 hg w39 hbox hb; replace HO_4 := uD (Kd.R_below (Kd.R_elderB (pr HO_4) gb189 (Nat.le_of_eq hg.symm)) hb); have BK189 := uD (hbox); have GW189 := uD ((by rw [hg]; exact (uN (pb HB)) : w.heap.size ≤ gb189)); have GE189 := uD ((by rw [hg]; exact (uN (pb HB)) : w.heap.size ≤ gb189)); replace HB := uD (uO (pb HB) hb); have NB181_189 := uD ((by rw [hg]; exact Nat.ne_of_lt (blk_lt (pk BK181)) : gb181 ≠ gb189)); have NB189_181 := uD ((by rw [hg]; exact Nat.ne_of_gt (blk_lt (pk BK181)) : gb189 ≠ gb181)); replace BK181 := uD (blk_below (pk BK181) hb); clear hb hbox hg; have hnb40 := NB189_181.out; have hnc40 := NB181_189.out; obtain ⟨hcz41_0, hcz41_1, hcz41_2, hfz41_0, hfz41_1, hfz41_2⟩ := cz3 BK189))
            have n0_ : Aside0 (Kd.R k26 26 (((w39.setCell ⟨gb189, 0, none⟩ (.int .i64 t186)).setCell ⟨gb189, 1, none⟩ (.int .i64 t187)).setCell ⟨gb189, 2, none⟩ (.int .i64 t188)) w.heap.size (fun k_ => k_ ≠ gb181 ∧ k_ ≠ gb189) u4 x4_2) := ⟨by (with_reducible repeat (first | apply uU | apply uS | apply uT)); exact uX (uV (p := ⟨gb189, 2, none⟩) (uV (p := ⟨gb189, 1, none⟩) (uV (p := ⟨gb189, 0, none⟩) (uX HO_4.out (fun k_ hk => (⟨hk, hk.2⟩ : _ ∧ k_ ≠ gb189))) (fun _ hk => hk.2) (.int .i64 t186)) (fun _ hk => hk.2) (.int .i64 t187)) (fun _ hk => hk.2) (.int .i64 t188)) (fun _ hk => ⟨hk.1.1, hk.1.2⟩)⟩
            have n1_ : Aside0 ((((w39.setCell ⟨gb189, 0, none⟩ (.int .i64 t186)).setCell ⟨gb189, 1, none⟩ (.int .i64 t187)).setCell ⟨gb189, 2, none⟩ (.int .i64 t188)).heap[gb181]? = some (.cells #[.int .i64 a0_0, .int .i64 a0_1, .int .i64 a0_2] 26 (0, 0))) := ⟨by exact ps BK181⟩
            have n2_ : Aside0 ((((w39.setCell ⟨gb189, 0, none⟩ (.int .i64 t186)).setCell ⟨gb189, 1, none⟩ (.int .i64 t187)).setCell ⟨gb189, 2, none⟩ (.int .i64 t188)).heap[gb189]? = some (.cells #[.int .i64 t186, .int .i64 t187, .int .i64 t188] 26 (0, 0))) := ⟨by (with_reducible repeat first|apply uH|apply uJ|apply uG); refine uP (cs := #[.int .i64 t186, .int .i64 t187, .int .i64 0]) ?_ 2 _ rfl; (with_reducible repeat first|apply uH|apply uJ|apply uG); refine uP (cs := #[.int .i64 t186, .int .i64 0, .int .i64 0]) ?_ 1 _ rfl; (with_reducible repeat first|apply uH|apply uJ|apply uG); refine uP (cs := #[.int .i64 0, .int .i64 0, .int .i64 0]) ?_ 0 _ rfl; (with_reducible repeat first|apply uH|apply uJ|apply uG); exact BK189.out⟩
            have n3_ : Aside0 (Below w.heap.size w (((w39.setCell ⟨gb189, 0, none⟩ (.int .i64 t186)).setCell ⟨gb189, 1, none⟩ (.int .i64 t187)).setCell ⟨gb189, 2, none⟩ (.int .i64 t188))) := ⟨pb HB⟩
            (try clear HO_4)
            (try clear BK181)
            (try clear BK189)
            (try clear HB)
            generalize (((w39.setCell ⟨gb189, 0, none⟩ (.int .i64 t186)).setCell ⟨gb189, 1, none⟩ (.int .i64 t187)).setCell ⟨gb189, 2, none⟩ (.int .i64 t188)) = w42 at n0_ n1_ n2_ n3_ ⊢
            have HO_4 := n0_
            have BK181 := n1_
            have BK189 := n2_
            have HB := n3_
            clear n0_ n1_ n2_ n3_
            replace HO_4 := uD (uT HO_4.out)
            replace BK181 := uD (uJ BK181.out)
            replace BK189 := uD (uJ BK189.out)
            replace HB := uD (uK HB.out)
            refine start_ (n := 14) (S := fun w' => w'.cell? ⟨gb189, 0, none⟩ = some (.int .i64 t186) ∧ w'.cell? ⟨gb189, 1, none⟩ = some (.int .i64 t187) ∧ w'.cell? ⟨gb189, 2, none⟩ = some (.int .i64 t188) ∧ w'.cell? ⟨gb181, 0, none⟩ = some (.int .i64 a0_0) ∧ w'.cell? ⟨gb181, 1, none⟩ = some (.int .i64 a0_1) ∧ w'.cell? ⟨gb181, 2, none⟩ = some (.int .i64 a0_2)) (ds := []) #[F,F,F,F,F,F,F,F,F,F,F,F,F,F] (by kernel_rfl) rfl rfl ⟨(uF BK189.out 0).trans rfl, (uF BK189.out 1).trans rfl, (uF BK189.out 2).trans rfl, (uF BK181.out 0).trans rfl, (uF BK181.out 1).trans rfl, (uF BK181.out 2).trans rfl⟩ (fun hHeld => ?_); refine with_tabW impl_NearTags.tab14 impl_NearTags.bits14 (fun HT_ HW_ => ?_)
            generalize w42.drew = w43 at HO_4 BK181 BK189 HB hHeld ⊢
            refine pu 0 (some 35) #[T,F,F,F,F,F,F,F,F,F,F,F,F,F] HT_ ?_
            refine pu 1 (some 36) #[T,T,F,F,F,F,F,F,F,F,F,F,F,F] HT_ ?_
            refine pu 2 (some 37) #[T,T,T,F,F,F,F,F,F,F,F,F,F,F] HT_ ?_
            refine pu 3 (some 38) #[T,T,T,T,F,F,F,F,F,F,F,F,F,F] HT_ ?_
            refine tk 4 (some 39) #[T,T,T,T,T,F,F,F,F,F,F,F,F,F] HT_ HW_ hHeld ?_
            refine one_ (i := 5) (N := some 40) #[T,T,T,T,T,T,F,F,F,F,F,F,F,F] rfl rfl (one_of HT_.out (by kernel_rfl)) (by decide) (fun K hK => ?_)
            refine goes_ Try.func18 (by kernel_rfl) rfl #[.agg #[.int .i64 t186, .int .i64 t187, .int .i64 t188]] (by rfl) rfl rfl (by (try simp only [List.map_toArray, List.map_cons, List.map_nil]); first | done | rfl | (simp only [List.length_drop, List.length_take]; rfl)) ?_
            with_reducible refine (impl_TagOk.calls t186 t187 t188 true _ A21.out).mono ?_
            rintro e w44 ⟨rfl, hb⟩
            refine ⟨_, rfl, ?_⟩
            replace HO_4 := uD (Kd.R_below (pr HO_4) hb)
            replace BK181 := uD (blk_below (pk BK181) hb)
            replace BK189 := uD (blk_below (pk BK189) hb)
            replace HB := uD (uO (pb HB) hb)
            (try clear hb)
            (try clear hb2)
            (try clear hk)
            (try clear hi)
            refine hK.out _ _ ⟨(uF BK189.out 0).trans rfl, (uF BK189.out 1).trans rfl, (uF BK189.out 2).trans rfl, (uF BK181.out 0).trans rfl, (uF BK181.out 1).trans rfl, (uF BK181.out 2).trans rfl⟩ (fun hHeld => ?_)
            clear hK K
            refine norm_ (a' := ?_) ?_ ?_
            rotate_left
            ·show uc _ (some 40) _ = _
             simp only [uc, uA, uB, uC, uZ, ua]
             rfl
            refine pu 6 (some 41) #[T,T,T,T,T,T,T,F,F,F,F,F,F,F] HT_ ?_
            refine pu 7 (some 42) #[T,T,T,T,T,T,T,T,F,F,F,F,F,F] HT_ ?_
            refine tk 8 (some 43) #[T,T,T,T,T,T,T,T,T,F,F,F,F,F] HT_ HW_ hHeld ?_
            refine tk 10 (some 45) #[T,T,T,T,T,T,T,T,T,F,T,F,F,F] HT_ HW_ hHeld ?_
            refine one_ (i := 9) (N := some 44) #[T,T,T,T,T,T,T,T,T,T,T,F,F,F] rfl rfl (one_of HT_.out (by kernel_rfl)) (by decide) (fun K hK => ?_)
            refine goes_ Try.func19 (by kernel_rfl) rfl #[.agg #[.int .i64 t186, .int .i64 t187, .int .i64 t188]] (by rfl) rfl rfl (by (try simp only [List.map_toArray, List.map_cons, List.map_nil]); first | done | rfl | (simp only [List.length_drop, List.length_take]; rfl)) ?_
            with_reducible refine (impl_TagCheck.calls t186 t187 t188 t191 _ A23.out).mono ?_
            rintro e w45 ⟨rfl, hb⟩
            refine ⟨_, rfl, ?_⟩
            replace HO_4 := uD (Kd.R_below (pr HO_4) hb)
            replace BK181 := uD (blk_below (pk BK181) hb)
            replace BK189 := uD (blk_below (pk BK189) hb)
            replace HB := uD (uO (pb HB) hb)
            (try clear hb)
            (try clear hb2)
            (try clear hk)
            (try clear hi)
            refine hK.out _ _ ⟨(uF BK189.out 0).trans rfl, (uF BK189.out 1).trans rfl, (uF BK189.out 2).trans rfl, (uF BK181.out 0).trans rfl, (uF BK181.out 1).trans rfl, (uF BK181.out 2).trans rfl⟩ (fun hHeld => ?_)
            clear hK K
            refine norm_ (a' := ?_) ?_ ?_
            rotate_left
            ·show uc _ (some 44) _ = _
             simp only [uc, uA, uB, uC, uZ, ua]
             rfl
            refine one_ (i := 11) (N := some 46) #[T,T,T,T,T,T,T,T,T,T,T,T,F,F] rfl rfl (one_of HT_.out (by kernel_rfl)) (by decide) (fun K hK => ?_)
            refine goes_ Try.func19 (by kernel_rfl) rfl #[.agg #[.int .i64 a0_0, .int .i64 a0_1, .int .i64 a0_2]] (by rfl) rfl rfl (by (try simp only [List.map_toArray, List.map_cons, List.map_nil]); first | done | rfl | (simp only [List.length_drop, List.length_take]; rfl)) ?_
            with_reducible refine (impl_TagCheck.calls a0_0 a0_1 a0_2 t192 _ A24.out).mono ?_
            rintro e w46 ⟨rfl, hb⟩
            refine ⟨_, rfl, ?_⟩
            replace HO_4 := uD (Kd.R_below (pr HO_4) hb)
            replace BK181 := uD (blk_below (pk BK181) hb)
            replace BK189 := uD (blk_below (pk BK189) hb)
            replace HB := uD (uO (pb HB) hb)
            (try clear hb)
            (try clear hb2)
            (try clear hk)
            (try clear hi)
            refine hK.out _ _ ⟨(uF BK189.out 0).trans rfl, (uF BK189.out 1).trans rfl, (uF BK189.out 2).trans rfl, (uF BK181.out 0).trans rfl, (uF BK181.out 1).trans rfl, (uF BK181.out 2).trans rfl⟩ (fun hHeld => ?_)
            clear hK K
            refine norm_ (a' := ?_) ?_ ?_
            rotate_left
            ·show uc _ (some 46) _ = _
             simp only [uc, uA, uB, uC, uZ, ua]
             rfl
            refine pu 12 (some 47) #[T,T,T,T,T,T,T,T,T,T,T,T,T,F] HT_ ?_
            refine pu 13 (some 48) #[T,T,T,T,T,T,T,T,T,T,T,T,T,T] HT_ ?_
            refine done_ (done_of HT_.out (by kernel_rfl)) ?_
            try go_wp2
            go_roundg k2
            case measure => have := HK1.out; have := HK2.out; omega
            case rel => exact ⟨(x4_2), (wrap64 (x7_2 + 1)), (by first | rfl | (simp; done) | (simp [*]; done)), H', ⟨by have := HK1.out; have := HK2.out; omega⟩, ⟨by (with_reducible repeat (first | apply uU | apply uS | apply uT)); exact uX HO_4.out (fun _ hk => hk.1)⟩, ⟨by (with_reducible repeat first|apply uH|apply uJ|apply uG); exact BK181.out⟩, ⟨pb HB⟩⟩
          ·replace c22 := Bool.eq_false_iff.mpr c22
           subst c22
           have H1 : (impl_NearTags.l1 k2 t182 x4_2 x5_1 (Int.tmod (wrap64 (Int.tdiv t182 x5_1)) 10) (wrap64 (x7_2 + 1)) a0_0 a0_1 a0_2) = some r := by rw [if_neg (show ¬ (false = true) by decide)] at H; first | done | exact H
           clear H
           have H := H1
           clear H1
           have H' := uD H
           clear H
           try go_wp2_with (first | ((with_reducible refine gate_callee (f := 17) rfl ?_); refine gl (some 34) Try.func17 #[.int .i64 (wrap64 (t182 + (wrap64 ((wrap64 (x7_2 - (Int.tmod (wrap64 (Int.tdiv t182 x5_1)) 10))) * x5_1))))] ?_; (with_reducible refine (impl_tagOf.calls (wrap64 (t182 + (wrap64 ((wrap64 (x7_2 - (Int.tmod (wrap64 (Int.tdiv t182 x5_1)) 10))) * x5_1)))) t186 t187 t188 _ A13.out).mono ?_); rintro e w47 ⟨rfl, hb⟩; refine ⟨_, rfl, ?_⟩; replace HO_4 := uD (Kd.R_below (pr HO_4) hb); replace BK181 := uD (blk_below (pk BK181) hb); replace HB := uD (uO (pb HB) hb); (try clear hb); (try clear hb2); (try clear hk); (try clear hi)) | ((with_reducible refine gate_dst (N := 9) rfl ?_); refine bx 9 #[.int .i64 0, .int .i64 0, .int .i64 0] 26 ?_; intro gb189 hg w48 hbox hb; replace HO_4 := uD (Kd.R_below (Kd.R_elderB (pr HO_4) gb189 (Nat.le_of_eq hg.symm)) hb); have BK189 := uD (hbox); have GW189 := uD ((by rw [hg]; exact (uN (pb HB)) : w.heap.size ≤ gb189)); have GE189 := uD ((by rw [hg]; exact (uN (pb HB)) : w.heap.size ≤ gb189)); replace HB := uD (uO (pb HB) hb); have NB181_189 := uD ((by rw [hg]; exact Nat.ne_of_lt (blk_lt (pk BK181)) : gb181 ≠ gb189)); have NB189_181 := uD ((by rw [hg]; exact Nat.ne_of_gt (blk_lt (pk BK181)) : gb189 ≠ gb181)); replace BK181 := uD (blk_below (pk BK181) hb); clear hb hbox hg; have hnb49 := NB189_181.out; have hnc49 := NB181_189.out; obtain ⟨hcz50_0, hcz50_1, hcz50_2, hfz50_0, hfz50_1, hfz50_2⟩ := cz3 BK189))
           have n0_ : Aside0 (Kd.R k26 26 (((w48.setCell ⟨gb189, 0, none⟩ (.int .i64 t186)).setCell ⟨gb189, 1, none⟩ (.int .i64 t187)).setCell ⟨gb189, 2, none⟩ (.int .i64 t188)) w.heap.size (fun k_ => k_ ≠ gb181 ∧ k_ ≠ gb189) u4 x4_2) := ⟨by (with_reducible repeat (first | apply uU | apply uS | apply uT)); exact uX (uV (p := ⟨gb189, 2, none⟩) (uV (p := ⟨gb189, 1, none⟩) (uV (p := ⟨gb189, 0, none⟩) (uX HO_4.out (fun k_ hk => (⟨hk, hk.2⟩ : _ ∧ k_ ≠ gb189))) (fun _ hk => hk.2) (.int .i64 t186)) (fun _ hk => hk.2) (.int .i64 t187)) (fun _ hk => hk.2) (.int .i64 t188)) (fun _ hk => ⟨hk.1.1, hk.1.2⟩)⟩
           have n1_ : Aside0 ((((w48.setCell ⟨gb189, 0, none⟩ (.int .i64 t186)).setCell ⟨gb189, 1, none⟩ (.int .i64 t187)).setCell ⟨gb189, 2, none⟩ (.int .i64 t188)).heap[gb181]? = some (.cells #[.int .i64 a0_0, .int .i64 a0_1, .int .i64 a0_2] 26 (0, 0))) := ⟨by exact ps BK181⟩
           have n2_ : Aside0 ((((w48.setCell ⟨gb189, 0, none⟩ (.int .i64 t186)).setCell ⟨gb189, 1, none⟩ (.int .i64 t187)).setCell ⟨gb189, 2, none⟩ (.int .i64 t188)).heap[gb189]? = some (.cells #[.int .i64 t186, .int .i64 t187, .int .i64 t188] 26 (0, 0))) := ⟨by (with_reducible repeat first|apply uH|apply uJ|apply uG); refine uP (cs := #[.int .i64 t186, .int .i64 t187, .int .i64 0]) ?_ 2 _ rfl; (with_reducible repeat first|apply uH|apply uJ|apply uG); refine uP (cs := #[.int .i64 t186, .int .i64 0, .int .i64 0]) ?_ 1 _ rfl; (with_reducible repeat first|apply uH|apply uJ|apply uG); refine uP (cs := #[.int .i64 0, .int .i64 0, .int .i64 0]) ?_ 0 _ rfl; (with_reducible repeat first|apply uH|apply uJ|apply uG); exact BK189.out⟩
           have n3_ : Aside0 (Below w.heap.size w (((w48.setCell ⟨gb189, 0, none⟩ (.int .i64 t186)).setCell ⟨gb189, 1, none⟩ (.int .i64 t187)).setCell ⟨gb189, 2, none⟩ (.int .i64 t188))) := ⟨pb HB⟩
           (try clear HO_4)
           (try clear BK181)
           (try clear BK189)
           (try clear HB)
           generalize (((w48.setCell ⟨gb189, 0, none⟩ (.int .i64 t186)).setCell ⟨gb189, 1, none⟩ (.int .i64 t187)).setCell ⟨gb189, 2, none⟩ (.int .i64 t188)) = w51 at n0_ n1_ n2_ n3_ ⊢
           have HO_4 := n0_
           have BK181 := n1_
           have BK189 := n2_
           have HB := n3_
           clear n0_ n1_ n2_ n3_
           replace HO_4 := uD (uT HO_4.out)
           replace BK181 := uD (uJ BK181.out)
           replace BK189 := uD (uJ BK189.out)
           replace HB := uD (uK HB.out)
           refine start_ (n := 14) (S := fun w' => w'.cell? ⟨gb189, 0, none⟩ = some (.int .i64 t186) ∧ w'.cell? ⟨gb189, 1, none⟩ = some (.int .i64 t187) ∧ w'.cell? ⟨gb189, 2, none⟩ = some (.int .i64 t188)) (ds := []) #[F,F,F,F,F,F,F,F,F,F,F,F,F,F] (by kernel_rfl) rfl rfl ⟨(uF BK189.out 0).trans rfl, (uF BK189.out 1).trans rfl, (uF BK189.out 2).trans rfl⟩ (fun hHeld => ?_); refine with_tabW impl_NearTags.tab14 impl_NearTags.bits14 (fun HT_ HW_ => ?_)
           generalize w51.drew = w52 at HO_4 BK181 BK189 HB hHeld ⊢
           refine pu 0 (some 35) #[T,F,F,F,F,F,F,F,F,F,F,F,F,F] HT_ ?_
           refine pu 1 (some 36) #[T,T,F,F,F,F,F,F,F,F,F,F,F,F] HT_ ?_
           refine pu 2 (some 37) #[T,T,T,F,F,F,F,F,F,F,F,F,F,F] HT_ ?_
           refine pu 3 (some 38) #[T,T,T,T,F,F,F,F,F,F,F,F,F,F] HT_ ?_
           refine tk 4 (some 39) #[T,T,T,T,T,F,F,F,F,F,F,F,F,F] HT_ HW_ hHeld ?_
           refine one_ (i := 5) (N := some 40) #[T,T,T,T,T,T,F,F,F,F,F,F,F,F] rfl rfl (one_of HT_.out (by kernel_rfl)) (by decide) (fun K hK => ?_)
           refine goes_ Try.func18 (by kernel_rfl) rfl #[.agg #[.int .i64 t186, .int .i64 t187, .int .i64 t188]] (by rfl) rfl rfl (by (try simp only [List.map_toArray, List.map_cons, List.map_nil]); first | done | rfl | (simp only [List.length_drop, List.length_take]; rfl)) ?_
           with_reducible refine (impl_TagOk.calls t186 t187 t188 false _ A21.out).mono ?_
           rintro e w53 ⟨rfl, hb⟩
           refine ⟨_, rfl, ?_⟩
           replace HO_4 := uD (Kd.R_below (pr HO_4) hb)
           replace BK181 := uD (blk_below (pk BK181) hb)
           replace BK189 := uD (blk_below (pk BK189) hb)
           replace HB := uD (uO (pb HB) hb)
           (try clear hb)
           (try clear hb2)
           (try clear hk)
           (try clear hi)
           refine hK.out _ _ ⟨(uF BK189.out 0).trans rfl, (uF BK189.out 1).trans rfl, (uF BK189.out 2).trans rfl⟩ (fun hHeld => ?_)
           clear hK K
           refine norm_ (a' := ?_) ?_ ?_
           rotate_left
           ·show uc _ (some 40) _ = _
            simp only [uc, uA, uB, uC, uZ, ua]
            rfl
           refine pu 6 (some 41) #[T,T,T,T,T,T,T,F,F,F,F,F,F,F] HT_ ?_
           refine pu 7 (some 42) #[T,T,T,T,T,T,T,T,F,F,F,F,F,F] HT_ ?_
           refine ub (i := 8) (N := some 43) (v := undef) (a' := ?_) #[T,T,T,T,T,T,T,T,T,F,F,F,F,F] rfl rfl (uY HT_.out (by kernel_rfl)) (fun _ _ _ h => h) (Or.inr ⟨by rfl, rfl⟩) ?_ ?_
           rotate_left
           ·simp only [uc, uA, uB, uC, uZ, ua]
            rfl
           refine ub (i := 9) (N := some 44) (v := undef) (a' := ?_) #[T,T,T,T,T,T,T,T,T,T,F,F,F,F] rfl rfl (uY HT_.out (by kernel_rfl)) (fun _ _ _ h => h) (Or.inr ⟨by rfl, rfl⟩) ?_ ?_
           rotate_left
           ·simp only [uc, uA, uB, uC, uZ, ua]
            rfl
           refine ub (i := 10) (N := some 45) (v := undef) (a' := ?_) #[T,T,T,T,T,T,T,T,T,T,T,F,F,F] rfl rfl (uY HT_.out (by kernel_rfl)) (fun _ _ _ h => h) (Or.inr ⟨by rfl, rfl⟩) ?_ ?_
           rotate_left
           ·simp only [uc, uA, uB, uC, uZ, ua]
            rfl
           refine ub (i := 11) (N := some 46) (v := undef) (a' := ?_) #[T,T,T,T,T,T,T,T,T,T,T,T,F,F] rfl rfl (uY HT_.out (by kernel_rfl)) (fun _ _ _ h => h) (Or.inr ⟨by rfl, rfl⟩) ?_ ?_
           rotate_left
           ·simp only [uc, uA, uB, uC, uZ, ua]
            rfl
           refine ub (i := 12) (N := some 47) (v := undef) (a' := ?_) #[T,T,T,T,T,T,T,T,T,T,T,T,T,F] rfl rfl (uY HT_.out (by kernel_rfl)) (fun _ _ _ h => h) (Or.inr ⟨by rfl, rfl⟩) ?_ ?_
           rotate_left
           ·simp only [uc, uA, uB, uC, uZ, ua]
            rfl
           refine pu 13 (some 48) #[T,T,T,T,T,T,T,T,T,T,T,T,T,T] HT_ ?_
           refine done_ (done_of HT_.out (by kernel_rfl)) ?_
           try go_wp2
           go_roundg k2
           case measure => have := HK1.out; have := HK2.out; omega
           case rel => exact ⟨(x4_2), (wrap64 (x7_2 + 1)), (by first | rfl | (simp; done) | (simp [*]; done)), H', ⟨by have := HK1.out; have := HK2.out; omega⟩, ⟨by (with_reducible repeat (first | apply uU | apply uS | apply uT)); exact uX HO_4.out (fun _ hk => hk.1)⟩, ⟨by (with_reducible repeat first|apply uH|apply uJ|apply uG); exact BK181.out⟩, ⟨pb HB⟩⟩
        ·rw [if_neg c12] at H
         have c12b0 : decide (x7_2 ≤ 9) = false := decide_eq_false c12
         clear c12
         have H' := uD H
         clear H
         go_wp2
         go_roundg k2
         case measure => have := HK1.out; have := HK2.out; omega
         case rel => exact ⟨(x4_2), (wrap64 (Int.tdiv x5_1 10)), (by first | rfl | (simp; done) | (simp [*]; done)), H', ⟨by have := HK1.out; have := HK2.out; omega⟩, ⟨by (with_reducible repeat (first | apply uU | apply uS | apply uT)); exact HO_4.out⟩, ⟨by (with_reducible repeat first|apply uH|apply uJ|apply uG); exact BK181.out⟩, ⟨pb HB⟩⟩
    ·rw [if_neg c10] at H
     have c10b0 : decide (0 < x5_1) = false := decide_eq_false c10
     clear c10
     replace H := Option.bind_eq_some_iff.mp H
     obtain ⟨t183, A540, H⟩ := H
     replace H : (some t183) = some r := H
     have A54 := uD A540
     clear A540
     obtain rfl := Option.some.inj H
     obtain ⟨Ao55, co55, eo55⟩ := Kd.R_slice HO_4.out
     subst eo55
     go_wp2_with (first | ((with_reducible refine gate_callee (f := 20) rfl ?_); refine gl (some 54) Try.func20 #[.slice Ao55 x4_1.length co55] ?_; (with_reducible refine (impl_ascending.calls k1 (fun k_ => some k_ = (.slice Ao55 x4_1.length co55 : Value).ownBlock) (.slice Ao55 x4_1.length co55) x4_1 t183 w _ ?side1 ?side2 A54.out).mono ?_); (case side1 => repeat (first | (with_reducible first | exact HB.out | apply uL | apply uE | apply uK | refine uM ?_ GE181.out) | exact HB.out)); (case side2 => exact Kd.R_tight rfl HO_4.out); rintro e w56 ⟨v184, rfl, ho0, hb, hkp⟩; refine ⟨_, rfl, ?_⟩; have HO185 := uD (uX (ok' := fun k_ => k_ ≠ gb181) ho0 (fun k_ hk_ => Or.elim hk_ (fun hs_ => fun e_ => (Kd.R_away HO_4.out (fun _ hk => hk)) (by rw [← e_]; exact hs_)) (fun hn_ => (Kd.freshB (pk BK181) k_ hn_)))); replace BK181 := uD (blk_kept (pk BK181) hkp (fun hs_ => (fun e_ => (Kd.R_away HO_4.out (fun _ hk => hk)) e_) hs_)); replace HB := uD (hb); clear HO_4; (try clear hb); (try clear hkp); (try clear ho0)))
     go_ret
     exact ⟨_, by first | rfl | (simp [errW_none, errW_some] <;> rfl) | (simp [*, errW_none, errW_some] <;> rfl), by (with_reducible repeat (first | apply uU | apply uS | apply uT)); exact uX HO185.out (fun _ hk => trivial), pb HB⟩

/-! ### laws_eqTag: function 21 -/
def laws_eqTag.f (a0_0 : Int) (a0_1 : Int) (a0_2 : Int) (a1_0 : Int) (a1_1 : Int) (a1_2 : Int) : Option (Bool) := if a0_0 = a1_0 then (if a0_1 = a1_1 then (if a0_2 = a1_2 then (some true) else (some false)) else (some false)) else (some false)
set_option maxHeartbeats 8000000 in
set_option maxRecDepth 100000 in
theorem laws_eqTag.calls (a0_0 : Int) (a0_1 : Int) (a0_2 : Int) (a1_0 : Int) (a1_1 : Int) (a1_2 : Int) (r : Bool) (w : World) (h : laws_eqTag.f a0_0 a0_1 a0_2 a1_0 a1_1 a1_2 = some r) :
  Calls Try.prog 21 #[.agg #[.int .i64 a0_0, .int .i64 a0_1, .int .i64 a0_2], .agg #[.int .i64 a1_0, .int .i64 a1_1, .int .i64 a1_2]] w fun e w' => e = .returned (.bool r) ∧ Below w.heap.size w w' := by
 have hu26 := Try.underlying26
 have HB := uD (Below.refl w.heap.size w)
 have H : (if a0_0 = a1_0 then (if a0_1 = a1_1 then (if a0_2 = a1_2 then (some true) else (some false)) else (some false)) else (some false)) = some r := h
 clear h
 by_cases c3 : a0_0 = a1_0
 ·rw [if_pos c3] at H
  have c3b0 : (a0_0 == a1_0) = true := beq_iff_eq.mpr c3
  have c3b1 : (a0_0 != a1_0) = false := bne_eq_false_iff_eq.mpr c3
  clear c3
  by_cases c4 : a0_1 = a1_1
  ·rw [if_pos c4] at H
   have c4b0 : (a0_1 == a1_1) = true := beq_iff_eq.mpr c4
   have c4b1 : (a0_1 != a1_1) = false := bne_eq_false_iff_eq.mpr c4
   clear c4
   by_cases c5 : a0_2 = a1_2
   ·rw [if_pos c5] at H
    have c5b0 : (a0_2 == a1_2) = true := beq_iff_eq.mpr c5
    have c5b1 : (a0_2 != a1_2) = false := bne_eq_false_iff_eq.mpr c5
    clear c5
    obtain rfl := Option.some.inj H
    go_enter Try.func21, Try.ntmps21
    go_wp2_with (first | ((with_reducible refine gate_dst (N := 2) rfl ?_); refine bx 2 #[.int .i64 a0_0, .int .i64 a0_1, .int .i64 a0_2] 26 ?_; intro gb196 hg w6 hbox hb; have BK196 := uD (hbox); have GW196 := uD ((by rw [hg]; exact (uN (pb HB)) : w.heap.size ≤ gb196)); have GE196 := uD ((by rw [hg]; exact (uN (pb HB)) : w.heap.size ≤ gb196)); replace HB := uD (uO (pb HB) hb); clear hb hbox hg) | ((with_reducible refine gate_dst (N := 3) rfl ?_); refine bx 3 #[.int .i64 a1_0, .int .i64 a1_1, .int .i64 a1_2] 26 ?_; intro gb197 hg w7 hbox hb; have BK197 := uD (hbox); have GW197 := uD ((by rw [hg]; exact (uN (pb HB)) : w.heap.size ≤ gb197)); have GE197 := uD ((by rw [hg]; exact (uN (pb HB)) : w.heap.size ≤ gb197)); replace HB := uD (uO (pb HB) hb); have NB196_197 := uD ((by rw [hg]; exact Nat.ne_of_lt (blk_lt (pk BK196)) : gb196 ≠ gb197)); have NB197_196 := uD ((by rw [hg]; exact Nat.ne_of_gt (blk_lt (pk BK196)) : gb197 ≠ gb196)); replace BK196 := uD (blk_below (pk BK196) hb); clear hb hbox hg; have hnb8 := NB196_197.out; have hnc8 := NB197_196.out; obtain ⟨hcz9_0, hcz9_1, hcz9_2, hfz9_0, hfz9_1, hfz9_2⟩ := cz3 BK196; obtain ⟨hcz10_0, hcz10_1, hcz10_2, hfz10_0, hfz10_1, hfz10_2⟩ := cz3 BK197))
    go_ret
    exact ⟨by first | rfl | (simp [errW_none, errW_some] <;> rfl) | (simp [*, errW_none, errW_some] <;> rfl), pb HB⟩
   ·rw [if_neg c5] at H
    have c5b0 : (a0_2 == a1_2) = false := beq_eq_false_iff_ne.mpr c5
    have c5b1 : (a0_2 != a1_2) = true := bne_iff_ne.mpr c5
    obtain rfl := Option.some.inj H
    go_enter Try.func21, Try.ntmps21
    go_wp2_with (first | ((with_reducible refine gate_dst (N := 2) rfl ?_); refine bx 2 #[.int .i64 a0_0, .int .i64 a0_1, .int .i64 a0_2] 26 ?_; intro gb196 hg w11 hbox hb; have BK196 := uD (hbox); have GW196 := uD ((by rw [hg]; exact (uN (pb HB)) : w.heap.size ≤ gb196)); have GE196 := uD ((by rw [hg]; exact (uN (pb HB)) : w.heap.size ≤ gb196)); replace HB := uD (uO (pb HB) hb); clear hb hbox hg) | ((with_reducible refine gate_dst (N := 3) rfl ?_); refine bx 3 #[.int .i64 a1_0, .int .i64 a1_1, .int .i64 a1_2] 26 ?_; intro gb197 hg w12 hbox hb; have BK197 := uD (hbox); have GW197 := uD ((by rw [hg]; exact (uN (pb HB)) : w.heap.size ≤ gb197)); have GE197 := uD ((by rw [hg]; exact (uN (pb HB)) : w.heap.size ≤ gb197)); replace HB := uD (uO (pb HB) hb); have NB196_197 := uD ((by rw [hg]; exact Nat.ne_of_lt (blk_lt (pk BK196)) : gb196 ≠ gb197)); have NB197_196 := uD ((by rw [hg]; exact Nat.ne_of_gt (blk_lt (pk BK196)) : gb197 ≠ gb196)); replace BK196 := uD (blk_below (pk BK196) hb); clear hb hbox hg; have hnb13 := NB196_197.out; have hnc13 := NB197_196.out; obtain ⟨hcz14_0, hcz14_1, hcz14_2, hfz14_0, hfz14_1, hfz14_2⟩ := cz3 BK196; obtain ⟨hcz15_0, hcz15_1, hcz15_2, hfz15_0, hfz15_1, hfz15_2⟩ := cz3 BK197))
    go_ret
    exact ⟨by first | rfl | (simp [errW_none, errW_some] <;> rfl) | (simp [*, errW_none, errW_some] <;> rfl), pb HB⟩
  ·rw [if_neg c4] at H
   have c4b0 : (a0_1 == a1_1) = false := beq_eq_false_iff_ne.mpr c4
   have c4b1 : (a0_1 != a1_1) = true := bne_iff_ne.mpr c4
   obtain rfl := Option.some.inj H
   go_enter Try.func21, Try.ntmps21
   go_wp2_with (first | ((with_reducible refine gate_dst (N := 2) rfl ?_); refine bx 2 #[.int .i64 a0_0, .int .i64 a0_1, .int .i64 a0_2] 26 ?_; intro gb196 hg w16 hbox hb; have BK196 := uD (hbox); have GW196 := uD ((by rw [hg]; exact (uN (pb HB)) : w.heap.size ≤ gb196)); have GE196 := uD ((by rw [hg]; exact (uN (pb HB)) : w.heap.size ≤ gb196)); replace HB := uD (uO (pb HB) hb); clear hb hbox hg) | ((with_reducible refine gate_dst (N := 3) rfl ?_); refine bx 3 #[.int .i64 a1_0, .int .i64 a1_1, .int .i64 a1_2] 26 ?_; intro gb197 hg w17 hbox hb; have BK197 := uD (hbox); have GW197 := uD ((by rw [hg]; exact (uN (pb HB)) : w.heap.size ≤ gb197)); have GE197 := uD ((by rw [hg]; exact (uN (pb HB)) : w.heap.size ≤ gb197)); replace HB := uD (uO (pb HB) hb); have NB196_197 := uD ((by rw [hg]; exact Nat.ne_of_lt (blk_lt (pk BK196)) : gb196 ≠ gb197)); have NB197_196 := uD ((by rw [hg]; exact Nat.ne_of_gt (blk_lt (pk BK196)) : gb197 ≠ gb196)); replace BK196 := uD (blk_below (pk BK196) hb); clear hb hbox hg; have hnb18 := NB196_197.out; have hnc18 := NB197_196.out; obtain ⟨hcz19_0, hcz19_1, hcz19_2, hfz19_0, hfz19_1, hfz19_2⟩ := cz3 BK196; obtain ⟨hcz20_0, hcz20_1, hcz20_2, hfz20_0, hfz20_1, hfz20_2⟩ := cz3 BK197))
   go_ret
   exact ⟨by first | rfl | (simp [errW_none, errW_some] <;> rfl) | (simp [*, errW_none, errW_some] <;> rfl), pb HB⟩
 ·rw [if_neg c3] at H
  have c3b0 : (a0_0 == a1_0) = false := beq_eq_false_iff_ne.mpr c3
  have c3b1 : (a0_0 != a1_0) = true := bne_iff_ne.mpr c3
  obtain rfl := Option.some.inj H
  go_enter Try.func21, Try.ntmps21
  go_wp2_with (first | ((with_reducible refine gate_dst (N := 2) rfl ?_); refine bx 2 #[.int .i64 a0_0, .int .i64 a0_1, .int .i64 a0_2] 26 ?_; intro gb196 hg w21 hbox hb; have BK196 := uD (hbox); have GW196 := uD ((by rw [hg]; exact (uN (pb HB)) : w.heap.size ≤ gb196)); have GE196 := uD ((by rw [hg]; exact (uN (pb HB)) : w.heap.size ≤ gb196)); replace HB := uD (uO (pb HB) hb); clear hb hbox hg) | ((with_reducible refine gate_dst (N := 3) rfl ?_); refine bx 3 #[.int .i64 a1_0, .int .i64 a1_1, .int .i64 a1_2] 26 ?_; intro gb197 hg w22 hbox hb; have BK197 := uD (hbox); have GW197 := uD ((by rw [hg]; exact (uN (pb HB)) : w.heap.size ≤ gb197)); have GE197 := uD ((by rw [hg]; exact (uN (pb HB)) : w.heap.size ≤ gb197)); replace HB := uD (uO (pb HB) hb); have NB196_197 := uD ((by rw [hg]; exact Nat.ne_of_lt (blk_lt (pk BK196)) : gb196 ≠ gb197)); have NB197_196 := uD ((by rw [hg]; exact Nat.ne_of_gt (blk_lt (pk BK196)) : gb197 ≠ gb196)); replace BK196 := uD (blk_below (pk BK196) hb); clear hb hbox hg; have hnb23 := NB196_197.out; have hnc23 := NB197_196.out; obtain ⟨hcz24_0, hcz24_1, hcz24_2, hfz24_0, hfz24_1, hfz24_2⟩ := cz3 BK196; obtain ⟨hcz25_0, hcz25_1, hcz25_2, hfz25_0, hfz25_1, hfz25_2⟩ := cz3 BK197))
  go_ret
  exact ⟨by first | rfl | (simp [errW_none, errW_some] <;> rfl) | (simp [*, errW_none, errW_some] <;> rfl), pb HB⟩

end Go.Proofs.Ytnkaimdcdedekaa.PFnExactNearTags
