-- Written by a program of this session (wip/myprint.py: the kit's print with changes): not by print.sh itself.
import Derived.Test.YtnkaimdcdedekaaDoorPFnNearTagsx0
import Derived.Test.YtnkaimdcdedekaaDoorPFnNearTagsx2
import Derived.Test.YtnkaimdcdedekaaDoorPFnNearTagsx3
import Derived.Test.YtnkaimdcdedekaaDoorPFnNearTagsx4
namespace Go.Proofs.YtnkaimdcdedekaaDoor.PFnNearTags
open Go.RowKit Go.Proofs.YtnkaimdcdedekaaDoorW.PrintWords Go.Proofs.YtnkaimdcdedekaaDoorW.PrintLast Go.Proofs.YtnkaimdcdedekaaDoorW.PrintMore
open Go renaming Act.put → uc
open Go.Proofs.YtnkaimdcdedekaaDoorW.PrintLast renaming any_of → uY, i64_w → uZ, i32_w → ua, pure_ → ub
open Go.Proofs.YtnkaimdcdedekaaDoorW.PrintWords renaming Aside0.mk → uD, pw_below_drewN → uE, blk_cell → uF, blk_alloc → uG, blk_drewN → uH, blk_drew → uJ, below_drew1 → uK, below_alloc → uL, below_set → uM, below_size → uN, below_step → uO, blk_put → uP, Kd.R_drewN → uS, Kd.R_drew → uT, Kd.R_alloc → uU, Kd.R_far → uV, Kd.R_mono → uX
open List renaming setIfInBounds_toArray → uA, set_cons_zero → uB, set_cons_succ → uC
open Bool renaming true → T, false → F
attribute [local go_sem] max2_int min2_int max_two min_two max_three min_three max_four min_four   -- for this text's walks alone
set_option linter.unusedVariables false
set_option linter.unusedSimpArgs false

/-! ### impl_NearTags: function 30 -/
mutual
def impl_NearTags.l0 : Nat → Int → List (S25) → Int → Int → Int → Int → Option ((List (S25)))
 | 0, _, _, _, _, _, _ => none
 | k + 1, x3, x4, x5, x219000, x219001, x219002 => if x5 > 0 then (if x5 = 0 then (none) else (impl_NearTags.l1 k x3 x4 x5 (Int.tmod (wrap64 (Int.tdiv x3 x5)) 10) 0 x219000 x219001 x219002)) else ((impl_ascending.f k x4).bind fun t220 => (some t220))
def impl_NearTags.l1 : Nat → Int → List (S25) → Int → Int → Int → Int → Int → Int → Option ((List (S25)))
 | 0, _, _, _, _, _, _, _, _ => none
 | k + 1, x3, x4, x5, x6, x7, x219000, x219001, x219002 => if x7 ≤ 9 then ((impl_tagOf.f (wrap64 (x3 + (wrap64 ((wrap64 (x7 - x6)) * x5))))).bind fun bt223 => (if x7 = x6 then (impl_NearTags.l1 k x3 x4 x5 x6 (wrap64 (x7 + 1)) x219000 x219001 x219002) else ((impl_TagOk.f bt223.1 bt223.2.1 bt223.2.2).bind fun t227 => (if t227 = true then ((impl_TagCheck.f bt223.1 bt223.2.1 bt223.2.2).bind fun t228 => ((impl_TagCheck.f x219000 x219001 x219002).bind fun t229 => (if t228 = t229 then (if x4.length < 5864062014805 then (impl_NearTags.l1 k x3 (x4 ++ [(⟨bt223.1, bt223.2.1, bt223.2.2⟩ : S25)]) x5 x6 (wrap64 (x7 + 1)) x219000 x219001 x219002) else (none)) else (impl_NearTags.l1 k x3 x4 x5 x6 (wrap64 (x7 + 1)) x219000 x219001 x219002)))) else (impl_NearTags.l1 k x3 x4 x5 x6 (wrap64 (x7 + 1)) x219000 x219001 x219002))))) else (impl_NearTags.l0 k x3 x4 (wrap64 (Int.tdiv x5 10)) x219000 x219001 x219002)
end
def impl_NearTags.f (k : Nat) (a0_0 : Int) (a0_1 : Int) (a0_2 : Int) : Option ((List (S25))) := (impl_TagNumber.f a0_0 a0_1 a0_2).bind fun t219 => (if t219 < 0 then (some ([] : List (S25))) else (impl_NearTags.l0 k t219 ([] : List (S25)) 1000000000 a0_0 a0_1 a0_2))
theorem impl_NearTags.mono_l : ∀ k, (∀ y0 y1 y2 y3 y4 y5, LeO (impl_NearTags.l0 k y0 y1 y2 y3 y4 y5) (impl_NearTags.l0 (k + 1) y0 y1 y2 y3 y4 y5)) ∧ (∀ y0 y1 y2 y3 y4 y5 y6 y7, LeO (impl_NearTags.l1 k y0 y1 y2 y3 y4 y5 y6 y7) (impl_NearTags.l1 (k + 1) y0 y1 y2 y3 y4 y5 y6 y7))
 | 0 => ⟨fun _ _ _ _ _ _ r h => by simp [impl_NearTags.l0] at h, fun _ _ _ _ _ _ _ _ r h => by simp [impl_NearTags.l1] at h⟩
 | k + 1 => by
  obtain ⟨ih0, ih1⟩ := impl_NearTags.mono_l k
  refine ⟨?_, ?_⟩
  ·intro y0 y1 y2 y3 y4 y5
   unfold impl_NearTags.l0
   repeat' first
   | (with_reducible exact ih0 _ _ _ _ _ _)
   | (with_reducible exact ih1 _ _ _ _ _ _ _ _)
   | (with_reducible exact impl_ascending.mono _ _)
   | (with_reducible exact LeO.refl _)
   | (with_reducible exact LeO.none _)
   | (with_reducible refine LeO.ite ?_ ?_)
   | (with_reducible refine LeO.bind ?_ (fun _ => ?_))
   | exact ih0 _ _ _ _ _ _
   | exact ih1 _ _ _ _ _ _ _ _
   | exact impl_ascending.mono _ _
   | exact LeO.none _
   | refine LeO.ite ?_ ?_
   | refine LeO.bind ?_ (fun _ => ?_)
  ·intro y0 y1 y2 y3 y4 y5 y6 y7
   unfold impl_NearTags.l1
   repeat' first
   | (with_reducible exact ih0 _ _ _ _ _ _)
   | (with_reducible exact ih1 _ _ _ _ _ _ _ _)
   | (with_reducible exact impl_ascending.mono _ _)
   | (with_reducible exact LeO.refl _)
   | (with_reducible exact LeO.none _)
   | (with_reducible refine LeO.ite ?_ ?_)
   | (with_reducible refine LeO.bind ?_ (fun _ => ?_))
   | exact ih0 _ _ _ _ _ _
   | exact ih1 _ _ _ _ _ _ _ _
   | exact impl_ascending.mono _ _
   | exact LeO.none _
   | refine LeO.ite ?_ ?_
   | refine LeO.bind ?_ (fun _ => ?_)
theorem impl_NearTags.mono : ∀ a0 a1 a2 k, LeO (impl_NearTags.f k a0 a1 a2) (impl_NearTags.f (k + 1) a0 a1 a2) := by
 intro a0 a1 a2 k
 obtain ⟨ih0, ih1⟩ := impl_NearTags.mono_l k
 unfold impl_NearTags.f
 repeat' first
   | (with_reducible exact ih0 _ _ _ _ _ _)
   | (with_reducible exact ih1 _ _ _ _ _ _ _ _)
   | (with_reducible exact impl_ascending.mono _ _)
   | (with_reducible exact LeO.refl _)
   | (with_reducible exact LeO.none _)
   | (with_reducible refine LeO.ite ?_ ?_)
   | (with_reducible refine LeO.bind ?_ (fun _ => ?_))
   | exact ih0 _ _ _ _ _ _
   | exact ih1 _ _ _ _ _ _ _ _
   | exact impl_ascending.mono _ _
   | exact LeO.none _
   | refine LeO.ite ?_ ?_
   | refine LeO.bind ?_ (fun _ => ?_)
def impl_NearTags.T14 : Bool × List (List Nat × List Nat) := (true, [([], []), ([], []), ([0, 1], [0, 1]), ([2], [2]), ([3], [3]), ([4, 3, 3], [3, 4]), ([3, 5], [3, 5]), ([6, 5], [6]), ([7], [7]), ([8, 7, 7], [7, 8]), ([7], [7]), ([10, 9, 7], [7, 10]), ([9, 11, 7], [7, 9, 11]), ([7, 12], [7, 12])])
def impl_NearTags.B14 : List Nat := [0, 0, 3, 7, 15, 31, 63, 127, 255, 511, 255, 2047, 4095, 8191]
theorem impl_NearTags.tab14 : rtab .any (opsOf Tryd.f30 14) = impl_NearTags.T14 := by kernel_rfl
theorem impl_NearTags.bits14 : waitsOk impl_NearTags.T14.2 impl_NearTags.B14 = true := by kernel_rfl
set_option maxHeartbeats 8000000 in
set_option maxRecDepth 100000 in
theorem impl_NearTags.calls (k : Nat) (a0_0 : Int) (a0_1 : Int) (a0_2 : Int) (r : List (S25)) (w : World) (h : impl_NearTags.f k a0_0 a0_1 a0_2 = some r) :
  Calls Tryd.prog 30 #[.agg #[.int .i64 a0_0, .int .i64 a0_1, .int .i64 a0_2]] w fun e w' => ∃ v0_ : Value, e = .returned (v0_) ∧ Kd.R k25 25 w' w.heap.size (fun _ => True) v0_ r ∧ Below w.heap.size w w' := by
 have hu25 := Tryd.underlying25
 have HB := uD (Below.refl w.heap.size w)
 have H : ((impl_TagNumber.f a0_0 a0_1 a0_2).bind fun t219 => (if t219 < 0 then (some ([] : List (S25))) else (impl_NearTags.l0 k t219 ([] : List (S25)) 1000000000 a0_0 a0_1 a0_2))) = some r := h
 clear h
 replace H := Option.bind_eq_some_iff.mp H
 obtain ⟨t219, A20, H⟩ := H
 replace H : (if t219 < 0 then (some ([] : List (S25))) else (impl_NearTags.l0 k t219 ([] : List (S25)) 1000000000 a0_0 a0_1 a0_2)) = some r := H
 have A2 := uD A20
 clear A20
 by_cases c3 : t219 < 0
 ·rw [if_pos c3] at H
  have c3b0 : decide (t219 < 0) = true := decide_eq_true c3
  clear c3
  obtain rfl := Option.some.inj H
  go_enter Tryd.func30, Tryd.ntmps30
  go_wp2_with (first | ((with_reducible refine gate_dst (N := 1) rfl ?_); refine bx 1 #[.int .i64 a0_0, .int .i64 a0_1, .int .i64 a0_2] 25 ?_; intro gb218 hg w4 hbox hb; have BK218 := uD (hbox); have GW218 := uD ((by rw [hg]; exact (uN (pb HB)) : w.heap.size ≤ gb218)); have GE218 := uD ((by rw [hg]; exact (uN (pb HB)) : w.heap.size ≤ gb218)); replace HB := uD (uO (pb HB) hb); clear hb hbox hg; obtain ⟨hcz5_0, hcz5_1, hcz5_2, hfz5_0, hfz5_1, hfz5_2⟩ := cz3 BK218) | ((with_reducible refine gate_callee (f := 28) rfl ?_); refine gl (some 11) Tryd.func28 #[.agg #[.int .i64 a0_0, .int .i64 a0_1, .int .i64 a0_2]] ?_; (with_reducible refine (impl_TagNumber.calls a0_0 a0_1 a0_2 t219 _ A2.out).mono ?_); rintro e w6 ⟨rfl, hb⟩; refine ⟨_, rfl, ?_⟩; replace BK218 := uD (blk_below (pk BK218) hb); replace HB := uD (uO (pb HB) hb); (try clear hb); (try clear hb2); (try clear hk); (try clear hi)))
  go_ret
  exact ⟨_, by first | rfl | (simp [errW_none, errW_some] <;> rfl) | (simp [*, errW_none, errW_some] <;> rfl), by first | exact Kd.R_nil _ _ _ _ _ | exact Kd.N_nil _ _ _ _ _ | exact Kd.V_nil _ _ _ _ _ | exact Kd.Q_nil _ _ _ _ _ | exact Kd.S_nil _ _ _ _ _, pb HB⟩
 ·rw [if_neg c3] at H
  have c3b0 : decide (t219 < 0) = false := decide_eq_false c3
  clear c3
  have H' := uD H
  clear H
  go_enter Tryd.func30, Tryd.ntmps30
  go_wp2_with (first | ((with_reducible refine gate_dst (N := 1) rfl ?_); refine bx 1 #[.int .i64 a0_0, .int .i64 a0_1, .int .i64 a0_2] 25 ?_; intro gb218 hg w7 hbox hb; have BK218 := uD (hbox); have GW218 := uD ((by rw [hg]; exact (uN (pb HB)) : w.heap.size ≤ gb218)); have GE218 := uD ((by rw [hg]; exact (uN (pb HB)) : w.heap.size ≤ gb218)); replace HB := uD (uO (pb HB) hb); clear hb hbox hg; obtain ⟨hcz8_0, hcz8_1, hcz8_2, hfz8_0, hfz8_1, hfz8_2⟩ := cz3 BK218) | ((with_reducible refine gate_callee (f := 28) rfl ?_); refine gl (some 11) Tryd.func28 #[.agg #[.int .i64 a0_0, .int .i64 a0_1, .int .i64 a0_2]] ?_; (with_reducible refine (impl_TagNumber.calls a0_0 a0_1 a0_2 t219 _ A2.out).mono ?_); rintro e w9 ⟨rfl, hb⟩; refine ⟨_, rfl, ?_⟩; replace BK218 := uD (blk_below (pk BK218) hb); replace HB := uD (uO (pb HB) hb); (try clear hb); (try clear hb2); (try clear hk); (try clear hi)))
  go_loopg [4, 5] k (fun kq v4 v5 w' => ∃ (x4_1 : List (S25)) (x5_1 : Int), v5 = .int .i64 x5_1 ∧ Aside0 (impl_NearTags.l0 kq t219 x4_1 x5_1 a0_0 a0_1 a0_2 = some r) ∧ Aside0 (kq ≤ k) ∧ Aside0 (Kd.R k25 25 w' w.heap.size (fun k_ => k_ ≠ gb218) v4 x4_1) ∧ Aside0 (w'.heap[gb218]? = some (.cells #[.int .i64 a0_0, .int .i64 a0_1, .int .i64 a0_2] 25 (0, 0))) ∧ Aside0 (Below w.heap.size w w'))
  case atStart => exact ⟨(([] : List (S25))), (1000000000), (by first | rfl | (simp; done) | (simp [*]; done)), H', ⟨Nat.le_refl _⟩, ⟨by first | exact Kd.R_nil _ _ _ _ _ | exact Kd.N_nil _ _ _ _ _ | exact Kd.V_nil _ _ _ _ _ | exact Kd.Q_nil _ _ _ _ _ | exact Kd.S_nil _ _ _ _ _⟩, ⟨by (with_reducible repeat first|apply uH|apply uJ|apply uG); exact BK218.out⟩, ⟨pb HB⟩⟩
  case round =>
   clear H'
   try clear c2
   try clear p2
   try clear c3
   try clear c3b0
   try clear hcz5_0
   try clear hcz5_1
   try clear hcz5_2
   try clear hcz8_0
   try clear hcz8_1
   try clear hcz8_2
   try clear hfz5_0
   try clear hfz5_1
   try clear hfz5_2
   try clear hfz8_0
   try clear hfz8_1
   try clear hfz8_2
   obtain ⟨x4_1, x5_1, rfl, HA, HK1, HO_4, BK218, HB⟩ := hrel
   cases gk with
   | zero => exact absurd HA.out (by simp [impl_NearTags.l0])
   | succ k1 =>
    have H := HA.out
    clear HA
    simp only [impl_NearTags.l0] at H
    by_cases c10 : x5_1 > 0
    ·rw [if_pos c10] at H
     have c10b0 : decide (0 < x5_1) = true := decide_eq_true c10
     clear c10
     by_cases c11 : x5_1 = 0
     ·rw [if_pos c11] at H
      exact absurd H (by simp)
     ·rw [if_neg c11] at H
      have c11b0 : (x5_1 == 0) = false := beq_eq_false_iff_ne.mpr c11
      have c11b1 : (x5_1 != 0) = true := bne_iff_ne.mpr c11
      have H' := uD H
      clear H
      go_wp2
      go_loopg [4, 7] k1 (fun kq v4 v7 w' => ∃ (x4_2 : List (S25)) (x7_2 : Int), v7 = .int .i64 x7_2 ∧ Aside0 (impl_NearTags.l1 kq t219 x4_2 x5_1 (Int.tmod (wrap64 (Int.tdiv t219 x5_1)) 10) x7_2 a0_0 a0_1 a0_2 = some r) ∧ Aside0 (kq ≤ k1) ∧ Aside0 (Kd.R k25 25 w' w.heap.size (fun k_ => k_ ≠ gb218) v4 x4_2) ∧ Aside0 (w'.heap[gb218]? = some (.cells #[.int .i64 a0_0, .int .i64 a0_1, .int .i64 a0_2] 25 (0, 0))) ∧ Aside0 (Below w.heap.size w w'))
      case atStart => exact ⟨(x4_1), (0), (by first | rfl | (simp; done) | (simp [*]; done)), H', ⟨Nat.le_refl _⟩, ⟨by (with_reducible repeat (first | apply uU | apply uS | apply uT)); exact HO_4.out⟩, ⟨by (with_reducible repeat first|apply uH|apply uJ|apply uG); exact BK218.out⟩, ⟨pb HB⟩⟩
      case round =>
       clear H'
       try clear c1
       try clear c2
       try clear p2
       try clear c3
       try clear c3b0
       try clear p6
       try clear c10
       try clear c10b0
       try clear c11
       try clear c11b0
       try clear c11b1
       try clear hcz5_0
       try clear hcz5_1
       try clear hcz5_2
       try clear hcz8_0
       try clear hcz8_1
       try clear hcz8_2
       try clear hfz5_0
       try clear hfz5_1
       try clear hfz5_2
       try clear hfz8_0
       try clear hfz8_1
       try clear hfz8_2
       try clear p2
       obtain ⟨x4_2, x7_2, rfl, HA, HK2, HO_4, BK218, HB⟩ := hrel
       cases gk with
       | zero => exact absurd HA.out (by simp [impl_NearTags.l1])
       | succ k2 =>
        have H := HA.out
        clear HA
        simp only [impl_NearTags.l1] at H
        by_cases c12 : x7_2 ≤ 9
        ·rw [if_pos c12] at H
         have c12b0 : decide (x7_2 ≤ 9) = true := decide_eq_true c12
         clear c12
         replace H := Option.bind_eq_some_iff.mp H
         obtain ⟨⟨t223, t224, t225⟩, A130, H⟩ := H
         replace H : (if x7_2 = (Int.tmod (wrap64 (Int.tdiv t219 x5_1)) 10) then (impl_NearTags.l1 k2 t219 x4_2 x5_1 (Int.tmod (wrap64 (Int.tdiv t219 x5_1)) 10) (wrap64 (x7_2 + 1)) a0_0 a0_1 a0_2) else ((impl_TagOk.f t223 t224 t225).bind fun t227 => (if t227 = true then ((impl_TagCheck.f t223 t224 t225).bind fun t228 => ((impl_TagCheck.f a0_0 a0_1 a0_2).bind fun t229 => (if t228 = t229 then (if x4_2.length < 5864062014805 then (impl_NearTags.l1 k2 t219 (x4_2 ++ [(⟨t223, t224, t225⟩ : S25)]) x5_1 (Int.tmod (wrap64 (Int.tdiv t219 x5_1)) 10) (wrap64 (x7_2 + 1)) a0_0 a0_1 a0_2) else (none)) else (impl_NearTags.l1 k2 t219 x4_2 x5_1 (Int.tmod (wrap64 (Int.tdiv t219 x5_1)) 10) (wrap64 (x7_2 + 1)) a0_0 a0_1 a0_2)))) else (impl_NearTags.l1 k2 t219 x4_2 x5_1 (Int.tmod (wrap64 (Int.tdiv t219 x5_1)) 10) (wrap64 (x7_2 + 1)) a0_0 a0_1 a0_2)))) = some r := H
         have A13 := uD A130
         clear A130
         by_cases c14 : x7_2 = (Int.tmod (wrap64 (Int.tdiv t219 x5_1)) 10)
         ·rw [if_pos c14] at H
          have c14b0 : (x7_2 == (Int.tmod (wrap64 (Int.tdiv t219 x5_1)) 10)) = true := beq_iff_eq.mpr c14
          have c14b1 : (x7_2 != (Int.tmod (wrap64 (Int.tdiv t219 x5_1)) 10)) = false := bne_eq_false_iff_eq.mpr c14
          clear c14
          have H' := uD H
          clear H
          try go_wp2_with (first | ((with_reducible refine gate_callee (f := 50) rfl ?_); refine gl (some 34) Tryd.func50 #[.int .i64 (wrap64 (t219 + (wrap64 ((wrap64 (x7_2 - (Int.tmod (wrap64 (Int.tdiv t219 x5_1)) 10))) * x5_1))))] ?_; (with_reducible refine (impl_tagOf.calls (wrap64 (t219 + (wrap64 ((wrap64 (x7_2 - (Int.tmod (wrap64 (Int.tdiv t219 x5_1)) 10))) * x5_1)))) t223 t224 t225 _ A13.out).mono ?_); rintro e w15 ⟨rfl, hb⟩; refine ⟨_, rfl, ?_⟩; replace HO_4 := uD (Kd.R_below (pr HO_4) hb); replace BK218 := uD (blk_below (pk BK218) hb); replace HB := uD (uO (pb HB) hb); (try clear hb); (try clear hb2); (try clear hk); (try clear hi)) | ((with_reducible refine gate_dst (N := 9) rfl ?_); refine bx 9 #[.int .i64 0, .int .i64 0, .int .i64 0] 25 ?_; intro gb226 hg w16 hbox hb; replace HO_4 := uD (Kd.R_below (Kd.R_elderB (pr HO_4) gb226 (Nat.le_of_eq hg.symm)) hb); have BK226 := uD (hbox); have GW226 := uD ((by rw [hg]; exact (uN (pb HB)) : w.heap.size ≤ gb226)); have GE226 := uD ((by rw [hg]; exact (uN (pb HB)) : w.heap.size ≤ gb226)); replace HB := uD (uO (pb HB) hb); have NB218_226 := uD ((by rw [hg]; exact Nat.ne_of_lt (blk_lt (pk BK218)) : gb218 ≠ gb226)); have NB226_218 := uD ((by rw [hg]; exact Nat.ne_of_gt (blk_lt (pk BK218)) : gb226 ≠ gb218)); replace BK218 := uD (blk_below (pk BK218) hb); clear hb hbox hg; have hnb17 := NB226_218.out; have hnc17 := NB218_226.out; obtain ⟨hcz18_0, hcz18_1, hcz18_2, hfz18_0, hfz18_1, hfz18_2⟩ := cz3 BK226))
          have n0_ : Aside0 (Kd.R k25 25 (((w16.setCell ⟨gb226, 0, none⟩ (.int .i64 t223)).setCell ⟨gb226, 1, none⟩ (.int .i64 t224)).setCell ⟨gb226, 2, none⟩ (.int .i64 t225)) w.heap.size (fun k_ => k_ ≠ gb218 ∧ k_ ≠ gb226) u4 x4_2) := ⟨by (with_reducible repeat (first | apply uU | apply uS | apply uT)); exact uX (uV (p := ⟨gb226, 2, none⟩) (uV (p := ⟨gb226, 1, none⟩) (uV (p := ⟨gb226, 0, none⟩) (uX HO_4.out (fun k_ hk => (⟨hk, hk.2⟩ : _ ∧ k_ ≠ gb226))) (fun _ hk => hk.2) (.int .i64 t223)) (fun _ hk => hk.2) (.int .i64 t224)) (fun _ hk => hk.2) (.int .i64 t225)) (fun _ hk => ⟨hk.1.1, hk.1.2⟩)⟩
          have n1_ : Aside0 ((((w16.setCell ⟨gb226, 0, none⟩ (.int .i64 t223)).setCell ⟨gb226, 1, none⟩ (.int .i64 t224)).setCell ⟨gb226, 2, none⟩ (.int .i64 t225)).heap[gb218]? = some (.cells #[.int .i64 a0_0, .int .i64 a0_1, .int .i64 a0_2] 25 (0, 0))) := ⟨by exact ps BK218⟩
          have n2_ : Aside0 ((((w16.setCell ⟨gb226, 0, none⟩ (.int .i64 t223)).setCell ⟨gb226, 1, none⟩ (.int .i64 t224)).setCell ⟨gb226, 2, none⟩ (.int .i64 t225)).heap[gb226]? = some (.cells #[.int .i64 t223, .int .i64 t224, .int .i64 t225] 25 (0, 0))) := ⟨by (with_reducible repeat first|apply uH|apply uJ|apply uG); refine uP (cs := #[.int .i64 t223, .int .i64 t224, .int .i64 0]) ?_ 2 _ rfl; (with_reducible repeat first|apply uH|apply uJ|apply uG); refine uP (cs := #[.int .i64 t223, .int .i64 0, .int .i64 0]) ?_ 1 _ rfl; (with_reducible repeat first|apply uH|apply uJ|apply uG); refine uP (cs := #[.int .i64 0, .int .i64 0, .int .i64 0]) ?_ 0 _ rfl; (with_reducible repeat first|apply uH|apply uJ|apply uG); exact BK226.out⟩
          have n3_ : Aside0 (Below w.heap.size w (((w16.setCell ⟨gb226, 0, none⟩ (.int .i64 t223)).setCell ⟨gb226, 1, none⟩ (.int .i64 t224)).setCell ⟨gb226, 2, none⟩ (.int .i64 t225))) := ⟨pb HB⟩
          (try clear HO_4)
          (try clear BK218)
          (try clear BK226)
          (try clear HB)
          generalize (((w16.setCell ⟨gb226, 0, none⟩ (.int .i64 t223)).setCell ⟨gb226, 1, none⟩ (.int .i64 t224)).setCell ⟨gb226, 2, none⟩ (.int .i64 t225)) = w19 at n0_ n1_ n2_ n3_ ⊢
          have HO_4 := n0_
          have BK218 := n1_
          have BK226 := n2_
          have HB := n3_
          clear n0_ n1_ n2_ n3_
          replace HO_4 := uD (uT HO_4.out)
          replace BK218 := uD (uJ BK218.out)
          replace BK226 := uD (uJ BK226.out)
          replace HB := uD (uK HB.out)
          refine start_ (n := 14) (S := fun w' => True) (ds := []) #[F,F,F,F,F,F,F,F,F,F,F,F,F,F] (by kernel_rfl) rfl rfl trivial (fun hHeld => ?_); refine with_tabW impl_NearTags.tab14 impl_NearTags.bits14 (fun HT_ HW_ => ?_)
          generalize w19.drew = w20 at HO_4 BK218 BK226 HB hHeld ⊢
          refine pu 0 (some 35) #[T,F,F,F,F,F,F,F,F,F,F,F,F,F] HT_ ?_
          refine pu 1 (some 36) #[T,T,F,F,F,F,F,F,F,F,F,F,F,F] HT_ ?_
          refine pu 2 (some 37) #[T,T,T,F,F,F,F,F,F,F,F,F,F,F] HT_ ?_
          refine pu 3 (some 38) #[T,T,T,T,F,F,F,F,F,F,F,F,F,F] HT_ ?_
          refine ub (i := 4) (N := some 39) (v := undef) (a' := ?_) #[T,T,T,T,T,F,F,F,F,F,F,F,F,F] rfl rfl (uY HT_.out (by kernel_rfl)) (fun _ _ _ h => h) (Or.inr ⟨by rfl, rfl⟩) ?_ ?_
          rotate_left
          ·simp only [uc, uA, uB, uC, uZ, ua]
           rfl
          refine ub (i := 5) (N := some 40) (v := undef) (a' := ?_) #[T,T,T,T,T,T,F,F,F,F,F,F,F,F] rfl rfl (uY HT_.out (by kernel_rfl)) (fun _ _ _ h => h) (Or.inr ⟨by rfl, rfl⟩) ?_ ?_
          rotate_left
          ·simp only [uc, uA, uB, uC, uZ, ua]
           rfl
          refine pu 6 (some 41) #[T,T,T,T,T,T,T,F,F,F,F,F,F,F] HT_ ?_
          refine pu 7 (some 42) #[T,T,T,T,T,T,T,T,F,F,F,F,F,F] HT_ ?_
          refine ub (i := 8) (N := some 43) (v := undef) (a' := ?_) #[T,T,T,T,T,T,T,T,T,F,F,F,F,F] rfl rfl (uY HT_.out (by kernel_rfl)) (fun _ _ _ h => h) (Or.inr ⟨by rfl, rfl⟩) ?_ ?_
          rotate_left
          ·simp only [uc, uA, uB, uC, uZ, ua]
           rfl
          refine ub (i := 9) (N := some 44) (v := undef) (a' := ?_) #[T,T,T,T,T,T,T,T,T,T,F,F,F,F] rfl rfl (uY HT_.out (by kernel_rfl)) (fun _ _ _ h => h) (Or.inr ⟨by rfl, rfl⟩) ?_ ?_
          rotate_left
          ·simp only [uc, uA, uB, uC, uZ, ua]
           rfl
          refine ub (i := 10) (N := some 45) (v := undef) (a' := ?_) #[T,T,T,T,T,T,T,T,T,T,T,F,F,F] rfl rfl (uY HT_.out (by kernel_rfl)) (fun _ _ _ h => h) (Or.inr ⟨by rfl, rfl⟩) ?_ ?_
          rotate_left
          ·simp only [uc, uA, uB, uC, uZ, ua]
           rfl
          refine ub (i := 11) (N := some 46) (v := undef) (a' := ?_) #[T,T,T,T,T,T,T,T,T,T,T,T,F,F] rfl rfl (uY HT_.out (by kernel_rfl)) (fun _ _ _ h => h) (Or.inr ⟨by rfl, rfl⟩) ?_ ?_
          rotate_left
          ·simp only [uc, uA, uB, uC, uZ, ua]
           rfl
          refine ub (i := 12) (N := some 47) (v := undef) (a' := ?_) #[T,T,T,T,T,T,T,T,T,T,T,T,T,F] rfl rfl (uY HT_.out (by kernel_rfl)) (fun _ _ _ h => h) (Or.inr ⟨by rfl, rfl⟩) ?_ ?_
          rotate_left
          ·simp only [uc, uA, uB, uC, uZ, ua]
           rfl
          refine pu 13 (some 48) #[T,T,T,T,T,T,T,T,T,T,T,T,T,T] HT_ ?_
          refine done_ (done_of HT_.out (by kernel_rfl)) ?_
          try go_wp2
          go_roundg k2
          case measure => have := HK1.out; have := HK2.out; omega
          case rel => exact ⟨(x4_2), (wrap64 (x7_2 + 1)), (by first | rfl | (simp; done) | (simp [*]; done)), H', ⟨by have := HK1.out; have := HK2.out; omega⟩, ⟨by (with_reducible repeat (first | apply uU | apply uS | apply uT)); exact uX HO_4.out (fun _ hk => hk.1)⟩, ⟨by (with_reducible repeat first|apply uH|apply uJ|apply uG); exact BK218.out⟩, ⟨pb HB⟩⟩
         ·rw [if_neg c14] at H
          have c14b0 : (x7_2 == (Int.tmod (wrap64 (Int.tdiv t219 x5_1)) 10)) = false := beq_eq_false_iff_ne.mpr c14
          have c14b1 : (x7_2 != (Int.tmod (wrap64 (Int.tdiv t219 x5_1)) 10)) = true := bne_iff_ne.mpr c14
          replace H := Option.bind_eq_some_iff.mp H
          obtain ⟨t227, A210, H⟩ := H
          replace H : (if t227 = true then ((impl_TagCheck.f t223 t224 t225).bind fun t228 => ((impl_TagCheck.f a0_0 a0_1 a0_2).bind fun t229 => (if t228 = t229 then (if x4_2.length < 5864062014805 then (impl_NearTags.l1 k2 t219 (x4_2 ++ [(⟨t223, t224, t225⟩ : S25)]) x5_1 (Int.tmod (wrap64 (Int.tdiv t219 x5_1)) 10) (wrap64 (x7_2 + 1)) a0_0 a0_1 a0_2) else (none)) else (impl_NearTags.l1 k2 t219 x4_2 x5_1 (Int.tmod (wrap64 (Int.tdiv t219 x5_1)) 10) (wrap64 (x7_2 + 1)) a0_0 a0_1 a0_2)))) else (impl_NearTags.l1 k2 t219 x4_2 x5_1 (Int.tmod (wrap64 (Int.tdiv t219 x5_1)) 10) (wrap64 (x7_2 + 1)) a0_0 a0_1 a0_2)) = some r := H
          have A21 := uD A210
          clear A210
          by_cases c22 : t227 = true
          ·subst c22
           have H1 : ((impl_TagCheck.f t223 t224 t225).bind fun t228 => ((impl_TagCheck.f a0_0 a0_1 a0_2).bind fun t229 => (if t228 = t229 then (if x4_2.length < 5864062014805 then (impl_NearTags.l1 k2 t219 (x4_2 ++ [(⟨t223, t224, t225⟩ : S25)]) x5_1 (Int.tmod (wrap64 (Int.tdiv t219 x5_1)) 10) (wrap64 (x7_2 + 1)) a0_0 a0_1 a0_2) else (none)) else (impl_NearTags.l1 k2 t219 x4_2 x5_1 (Int.tmod (wrap64 (Int.tdiv t219 x5_1)) 10) (wrap64 (x7_2 + 1)) a0_0 a0_1 a0_2)))) = some r := by rw [if_pos rfl] at H; first | done | exact H
           clear H
           have H := H1
           clear H1
           replace H := Option.bind_eq_some_iff.mp H
           obtain ⟨t228, A230, H⟩ := H
           replace H : ((impl_TagCheck.f a0_0 a0_1 a0_2).bind fun t229 => (if t228 = t229 then (if x4_2.length < 5864062014805 then (impl_NearTags.l1 k2 t219 (x4_2 ++ [(⟨t223, t224, t225⟩ : S25)]) x5_1 (Int.tmod (wrap64 (Int.tdiv t219 x5_1)) 10) (wrap64 (x7_2 + 1)) a0_0 a0_1 a0_2) else (none)) else (impl_NearTags.l1 k2 t219 x4_2 x5_1 (Int.tmod (wrap64 (Int.tdiv t219 x5_1)) 10) (wrap64 (x7_2 + 1)) a0_0 a0_1 a0_2))) = some r := H
           have A23 := uD A230
           clear A230
           replace H := Option.bind_eq_some_iff.mp H
           obtain ⟨t229, A240, H⟩ := H
           replace H : (if t228 = t229 then (if x4_2.length < 5864062014805 then (impl_NearTags.l1 k2 t219 (x4_2 ++ [(⟨t223, t224, t225⟩ : S25)]) x5_1 (Int.tmod (wrap64 (Int.tdiv t219 x5_1)) 10) (wrap64 (x7_2 + 1)) a0_0 a0_1 a0_2) else (none)) else (impl_NearTags.l1 k2 t219 x4_2 x5_1 (Int.tmod (wrap64 (Int.tdiv t219 x5_1)) 10) (wrap64 (x7_2 + 1)) a0_0 a0_1 a0_2)) = some r := H
           have A24 := uD A240
           clear A240
           by_cases c25 : t228 = t229
           ·rw [if_pos c25] at H
            have c25b0 : (t228 == t229) = true := beq_iff_eq.mpr c25
            have c25b1 : (t228 != t229) = false := bne_eq_false_iff_eq.mpr c25
            clear c25
            by_cases c26 : x4_2.length < 5864062014805
            ·rw [if_pos c26] at H
             have LMc26 := uD c26
             clear c26
             obtain ⟨y230, hy230⟩ : ∃ y_ : List (S25), y_ = (x4_2 ++ [(⟨t223, t224, t225⟩ : S25)]) := ⟨_, rfl⟩
             replace H : (impl_NearTags.l1 k2 t219 y230 x5_1 (Int.tmod (wrap64 (Int.tdiv t219 x5_1)) 10) (wrap64 (x7_2 + 1)) a0_0 a0_1 a0_2) = some r := by first | (rw [hy230]; with_reducible exact H) | (have H2_ := (Option.bind_some _ _).symm.trans H; rw [hy230]; with_reducible exact H2_) | (have H2_ := (Option.bind_some _ _).symm.trans H; with_reducible exact H2_) | with_reducible exact H | (rw [hy230]; exact H) | exact H
             have Ny230 := uD hy230
             clear hy230
             have H' := uD H
             clear H
             try go_wp2_with (first | ((with_reducible refine gate_callee (f := 50) rfl ?_); refine gl (some 34) Tryd.func50 #[.int .i64 (wrap64 (t219 + (wrap64 ((wrap64 (x7_2 - (Int.tmod (wrap64 (Int.tdiv t219 x5_1)) 10))) * x5_1))))] ?_; (with_reducible refine (impl_tagOf.calls (wrap64 (t219 + (wrap64 ((wrap64 (x7_2 - (Int.tmod (wrap64 (Int.tdiv t219 x5_1)) 10))) * x5_1)))) t223 t224 t225 _ A13.out).mono ?_); rintro e w27 ⟨rfl, hb⟩; refine ⟨_, rfl, ?_⟩; replace HO_4 := uD (Kd.R_below (pr HO_4) hb); replace BK218 := uD (blk_below (pk BK218) hb); replace HB := uD (uO (pb HB) hb); (try clear hb); (try clear hb2); (try clear hk); (try clear hi)) | ((with_reducible refine gate_dst (N := 9) rfl ?_); refine bx 9 #[.int .i64 0, .int .i64 0, .int .i64 0] 25 ?_; intro gb226 hg w28 hbox hb; replace HO_4 := uD (Kd.R_below (Kd.R_elderB (pr HO_4) gb226 (Nat.le_of_eq hg.symm)) hb); have BK226 := uD (hbox); have GW226 := uD ((by rw [hg]; exact (uN (pb HB)) : w.heap.size ≤ gb226)); have GE226 := uD ((by rw [hg]; exact (uN (pb HB)) : w.heap.size ≤ gb226)); replace HB := uD (uO (pb HB) hb); have NB218_226 := uD ((by rw [hg]; exact Nat.ne_of_lt (blk_lt (pk BK218)) : gb218 ≠ gb226)); have NB226_218 := uD ((by rw [hg]; exact Nat.ne_of_gt (blk_lt (pk BK218)) : gb226 ≠ gb218)); replace BK218 := uD (blk_below (pk BK218) hb); clear hb hbox hg; have hnb29 := NB226_218.out; have hnc29 := NB218_226.out; obtain ⟨hcz30_0, hcz30_1, hcz30_2, hfz30_0, hfz30_1, hfz30_2⟩ := cz3 BK226))
             have n0_ : Aside0 (Kd.R k25 25 (((w28.setCell ⟨gb226, 0, none⟩ (.int .i64 t223)).setCell ⟨gb226, 1, none⟩ (.int .i64 t224)).setCell ⟨gb226, 2, none⟩ (.int .i64 t225)) w.heap.size (fun k_ => k_ ≠ gb218 ∧ k_ ≠ gb226) u4 x4_2) := ⟨by (with_reducible repeat (first | apply uU | apply uS | apply uT)); exact uX (uV (p := ⟨gb226, 2, none⟩) (uV (p := ⟨gb226, 1, none⟩) (uV (p := ⟨gb226, 0, none⟩) (uX HO_4.out (fun k_ hk => (⟨hk, hk.2⟩ : _ ∧ k_ ≠ gb226))) (fun _ hk => hk.2) (.int .i64 t223)) (fun _ hk => hk.2) (.int .i64 t224)) (fun _ hk => hk.2) (.int .i64 t225)) (fun _ hk => ⟨hk.1.1, hk.1.2⟩)⟩
             have n1_ : Aside0 ((((w28.setCell ⟨gb226, 0, none⟩ (.int .i64 t223)).setCell ⟨gb226, 1, none⟩ (.int .i64 t224)).setCell ⟨gb226, 2, none⟩ (.int .i64 t225)).heap[gb218]? = some (.cells #[.int .i64 a0_0, .int .i64 a0_1, .int .i64 a0_2] 25 (0, 0))) := ⟨by exact ps BK218⟩
             have n2_ : Aside0 ((((w28.setCell ⟨gb226, 0, none⟩ (.int .i64 t223)).setCell ⟨gb226, 1, none⟩ (.int .i64 t224)).setCell ⟨gb226, 2, none⟩ (.int .i64 t225)).heap[gb226]? = some (.cells #[.int .i64 t223, .int .i64 t224, .int .i64 t225] 25 (0, 0))) := ⟨by (with_reducible repeat first|apply uH|apply uJ|apply uG); refine uP (cs := #[.int .i64 t223, .int .i64 t224, .int .i64 0]) ?_ 2 _ rfl; (with_reducible repeat first|apply uH|apply uJ|apply uG); refine uP (cs := #[.int .i64 t223, .int .i64 0, .int .i64 0]) ?_ 1 _ rfl; (with_reducible repeat first|apply uH|apply uJ|apply uG); refine uP (cs := #[.int .i64 0, .int .i64 0, .int .i64 0]) ?_ 0 _ rfl; (with_reducible repeat first|apply uH|apply uJ|apply uG); exact BK226.out⟩
             have n3_ : Aside0 (Below w.heap.size w (((w28.setCell ⟨gb226, 0, none⟩ (.int .i64 t223)).setCell ⟨gb226, 1, none⟩ (.int .i64 t224)).setCell ⟨gb226, 2, none⟩ (.int .i64 t225))) := ⟨pb HB⟩
             (try clear HO_4)
             (try clear BK218)
             (try clear BK226)
             (try clear HB)
             generalize (((w28.setCell ⟨gb226, 0, none⟩ (.int .i64 t223)).setCell ⟨gb226, 1, none⟩ (.int .i64 t224)).setCell ⟨gb226, 2, none⟩ (.int .i64 t225)) = w31 at n0_ n1_ n2_ n3_ ⊢
             have HO_4 := n0_
             have BK218 := n1_
             have BK226 := n2_
             have HB := n3_
             clear n0_ n1_ n2_ n3_
             replace HO_4 := uD (uT HO_4.out)
             replace BK218 := uD (uJ BK218.out)
             replace BK226 := uD (uJ BK226.out)
             replace HB := uD (uK HB.out)
             refine start_ (n := 14) (S := fun w' => w'.cell? ⟨gb226, 0, none⟩ = some (.int .i64 t223) ∧ w'.cell? ⟨gb226, 1, none⟩ = some (.int .i64 t224) ∧ w'.cell? ⟨gb226, 2, none⟩ = some (.int .i64 t225) ∧ w'.cell? ⟨gb218, 0, none⟩ = some (.int .i64 a0_0) ∧ w'.cell? ⟨gb218, 1, none⟩ = some (.int .i64 a0_1) ∧ w'.cell? ⟨gb218, 2, none⟩ = some (.int .i64 a0_2)) (ds := []) #[F,F,F,F,F,F,F,F,F,F,F,F,F,F] (by kernel_rfl) rfl rfl ⟨(uF BK226.out 0).trans rfl, (uF BK226.out 1).trans rfl, (uF BK226.out 2).trans rfl, (uF BK218.out 0).trans rfl, (uF BK218.out 1).trans rfl, (uF BK218.out 2).trans rfl⟩ (fun hHeld => ?_); refine with_tabW impl_NearTags.tab14 impl_NearTags.bits14 (fun HT_ HW_ => ?_)
             generalize w31.drew = w32 at HO_4 BK218 BK226 HB hHeld ⊢
             refine pu 0 (some 35) #[T,F,F,F,F,F,F,F,F,F,F,F,F,F] HT_ ?_
             refine pu 1 (some 36) #[T,T,F,F,F,F,F,F,F,F,F,F,F,F] HT_ ?_
             refine pu 2 (some 37) #[T,T,T,F,F,F,F,F,F,F,F,F,F,F] HT_ ?_
             refine pu 3 (some 38) #[T,T,T,T,F,F,F,F,F,F,F,F,F,F] HT_ ?_
             refine tk 4 (some 39) #[T,T,T,T,T,F,F,F,F,F,F,F,F,F] HT_ HW_ hHeld ?_
             refine one_ (i := 5) (N := some 40) #[T,T,T,T,T,T,F,F,F,F,F,F,F,F] rfl rfl (one_of HT_.out (by kernel_rfl)) (by decide) (fun K hK => ?_)
             refine goes_ Tryd.func33 (by kernel_rfl) rfl #[.agg #[.int .i64 t223, .int .i64 t224, .int .i64 t225]] (by rfl) rfl rfl (by (try simp only [List.map_toArray, List.map_cons, List.map_nil]); first | done | rfl | (simp only [List.length_drop, List.length_take]; rfl)) ?_
             with_reducible refine (impl_TagOk.calls t223 t224 t225 true _ A21.out).mono ?_
             rintro e w33 ⟨rfl, hb⟩
             refine ⟨_, rfl, ?_⟩
             replace HO_4 := uD (Kd.R_below (pr HO_4) hb)
             replace BK218 := uD (blk_below (pk BK218) hb)
             replace BK226 := uD (blk_below (pk BK226) hb)
             replace HB := uD (uO (pb HB) hb)
             (try clear hb)
             (try clear hb2)
             (try clear hk)
             (try clear hi)
             refine hK.out _ _ ⟨(uF BK226.out 0).trans rfl, (uF BK226.out 1).trans rfl, (uF BK226.out 2).trans rfl, (uF BK218.out 0).trans rfl, (uF BK218.out 1).trans rfl, (uF BK218.out 2).trans rfl⟩ (fun hHeld => ?_)
             clear hK K
             refine norm_ (a' := ?_) ?_ ?_
             rotate_left
             ·show uc _ (some 40) _ = _
              simp only [uc, uA, uB, uC, uZ, ua]
              rfl
             refine pu 6 (some 41) #[T,T,T,T,T,T,T,F,F,F,F,F,F,F] HT_ ?_
             refine pu 7 (some 42) #[T,T,T,T,T,T,T,T,F,F,F,F,F,F] HT_ ?_
             refine tk 8 (some 43) #[T,T,T,T,T,T,T,T,T,F,F,F,F,F] HT_ HW_ hHeld ?_
             refine tk 10 (some 45) #[T,T,T,T,T,T,T,T,T,F,T,F,F,F] HT_ HW_ hHeld ?_
             refine one_ (i := 9) (N := some 44) #[T,T,T,T,T,T,T,T,T,T,T,F,F,F] rfl rfl (one_of HT_.out (by kernel_rfl)) (by decide) (fun K hK => ?_)
             refine goes_ Tryd.func34 (by kernel_rfl) rfl #[.agg #[.int .i64 t223, .int .i64 t224, .int .i64 t225]] (by rfl) rfl rfl (by (try simp only [List.map_toArray, List.map_cons, List.map_nil]); first | done | rfl | (simp only [List.length_drop, List.length_take]; rfl)) ?_
             with_reducible refine (impl_TagCheck.calls t223 t224 t225 t228 _ A23.out).mono ?_
             rintro e w34 ⟨rfl, hb⟩
             refine ⟨_, rfl, ?_⟩
             replace HO_4 := uD (Kd.R_below (pr HO_4) hb)
             replace BK218 := uD (blk_below (pk BK218) hb)
             replace BK226 := uD (blk_below (pk BK226) hb)
             replace HB := uD (uO (pb HB) hb)
             (try clear hb)
             (try clear hb2)
             (try clear hk)
             (try clear hi)
             refine hK.out _ _ ⟨(uF BK226.out 0).trans rfl, (uF BK226.out 1).trans rfl, (uF BK226.out 2).trans rfl, (uF BK218.out 0).trans rfl, (uF BK218.out 1).trans rfl, (uF BK218.out 2).trans rfl⟩ (fun hHeld => ?_)
             clear hK K
             refine norm_ (a' := ?_) ?_ ?_
             rotate_left
             ·show uc _ (some 44) _ = _
              simp only [uc, uA, uB, uC, uZ, ua]
              rfl
             refine one_ (i := 11) (N := some 46) #[T,T,T,T,T,T,T,T,T,T,T,T,F,F] rfl rfl (one_of HT_.out (by kernel_rfl)) (by decide) (fun K hK => ?_)
             refine goes_ Tryd.func34 (by kernel_rfl) rfl #[.agg #[.int .i64 a0_0, .int .i64 a0_1, .int .i64 a0_2]] (by rfl) rfl rfl (by (try simp only [List.map_toArray, List.map_cons, List.map_nil]); first | done | rfl | (simp only [List.length_drop, List.length_take]; rfl)) ?_
             with_reducible refine (impl_TagCheck.calls a0_0 a0_1 a0_2 t229 _ A24.out).mono ?_
             rintro e w35 ⟨rfl, hb⟩
             refine ⟨_, rfl, ?_⟩
             replace HO_4 := uD (Kd.R_below (pr HO_4) hb)
             replace BK218 := uD (blk_below (pk BK218) hb)
             replace BK226 := uD (blk_below (pk BK226) hb)
             replace HB := uD (uO (pb HB) hb)
             (try clear hb)
             (try clear hb2)
             (try clear hk)
             (try clear hi)
             refine hK.out _ _ ⟨(uF BK226.out 0).trans rfl, (uF BK226.out 1).trans rfl, (uF BK226.out 2).trans rfl, (uF BK218.out 0).trans rfl, (uF BK218.out 1).trans rfl, (uF BK218.out 2).trans rfl⟩ (fun hHeld => ?_)
             clear hK K
             refine norm_ (a' := ?_) ?_ ?_
             rotate_left
             ·show uc _ (some 46) _ = _
              simp only [uc, uA, uB, uC, uZ, ua]
              rfl
             refine pu 12 (some 47) #[T,T,T,T,T,T,T,T,T,T,T,T,T,F] HT_ ?_
             refine pu 13 (some 48) #[T,T,T,T,T,T,T,T,T,T,T,T,T,T] HT_ ?_
             refine done_ (done_of HT_.out (by kernel_rfl)) ?_
             obtain ⟨hcz36_0, hcz36_1, hcz36_2, hfz36_0, hfz36_1, hfz36_2⟩ := cz3 BK226
             try go_wp2_with (first | ((with_reducible refine gate_builtin (b := .append) (xs := #[.tmp 49, .tmp 51]) rfl ?_); at_builtin; refine Kd.R_append k25 (w0 := w) w.heap.size rfl (.tmp 49) (.tmp 51) 32 25 (.agg #[(.int .i64 0), (.int .i64 0), (.int .i64 0)]) 24 rfl Tryd.underlying32 info25 rfl (by decide) (by omega) u4 x4_2 (⟨t223, t224, t225⟩ : S25) [.int .i64 t223, .int .i64 t224, .int .i64 t225] (fun k_ => k_ ≠ gb218 ∧ k_ ≠ gb226) (fun _ => False) rfl rfl ?aP (fun _ hk => hk.elim) ?aF ?aO ?aB ?aS ?aL ?_; (case aP => exact k25_mkM _ _ _ (⟨t223, t224, t225⟩ : S25)); (case aB => exact (pb HB)); (case aF => exact (fun k_ hk => ⟨Kd.freshB (pk BK218) k_ hk, Kd.freshB (pk BK226) k_ hk⟩)); (case aO => exact (pr HO_4)); (case aS => exact (uN (pb HB))); (case aL => have := LMc26.out; omega); intro v231 w37 ho hb hg hat; rw [← Ny230.out] at ho; replace BK218 := uD (blk_grown (pk BK218) hg (Kd.R_away HO_4.out (fun _ hk => hk.1))); replace BK226 := uD (blk_grown (pk BK226) hg (Kd.R_away HO_4.out (fun _ hk => hk.2))); replace HB := uD (hb); have HO232 := uD (ho); clear HO_4; clear ho hb hg hat))
             go_roundg k2
             case measure => have := HK1.out; have := HK2.out; omega
             case rel => exact ⟨(y230), (wrap64 (x7_2 + 1)), (by first | rfl | (simp; done) | (simp [*]; done)), H', ⟨by have := HK1.out; have := HK2.out; omega⟩, ⟨by (with_reducible repeat (first | apply uU | apply uS | apply uT)); exact uX HO232.out (fun _ hk => hk.1)⟩, ⟨by (with_reducible repeat first|apply uH|apply uJ|apply uG); exact BK218.out⟩, ⟨pb HB⟩⟩
            ·rw [if_neg c26] at H
             exact absurd H (by simp)
           ·rw [if_neg c25] at H
            have c25b0 : (t228 == t229) = false := beq_eq_false_iff_ne.mpr c25
            have c25b1 : (t228 != t229) = true := bne_iff_ne.mpr c25
            have H' := uD H
            clear H
            try go_wp2_with (first | ((with_reducible refine gate_callee (f := 50) rfl ?_); refine gl (some 34) Tryd.func50 #[.int .i64 (wrap64 (t219 + (wrap64 ((wrap64 (x7_2 - (Int.tmod (wrap64 (Int.tdiv t219 x5_1)) 10))) * x5_1))))] ?_; (with_reducible refine (impl_tagOf.calls (wrap64 (t219 + (wrap64 ((wrap64 (x7_2 - (Int.tmod (wrap64 (Int.tdiv t219 x5_1)) 10))) * x5_1)))) t223 t224 t225 _ A13.out).mono ?_); rintro e w38 ⟨rfl, hb⟩; refine ⟨_, rfl, ?_⟩; replace HO_4 := uD (Kd.R_below (pr HO_4) hb); replace BK218 := uD (blk_below (pk BK218) hb); replace HB := uD (uO (pb HB) hb); (try clear hb); (try clear hb2); (try clear hk); (try clear hi)) | ((with_reducible refine gate_dst (N := 9) rfl ?_); refine bx 9 #[.int .i64 0, .int .i64 0, .int .i64 0] 25 ?_; intro gb226 hg w39 hbox hb; replace HO_4 := uD (Kd.R_below (Kd.R_elderB (pr HO_4) gb226 (Nat.le_of_eq hg.symm)) hb); have BK226 := uD (hbox); have GW226 := uD ((by rw [hg]; exact (uN (pb HB)) : w.heap.size ≤ gb226)); have GE226 := uD ((by rw [hg]; exact (uN (pb HB)) : w.heap.size ≤ gb226)); replace HB := uD (uO (pb HB) hb); have NB218_226 := uD ((by rw [hg]; exact Nat.ne_of_lt (blk_lt (pk BK218)) : gb218 ≠ gb226)); have NB226_218 := uD ((by rw [hg]; exact Nat.ne_of_gt (blk_lt (pk BK218)) : gb226 ≠ gb218)); replace BK218 := uD (blk_below (pk BK218) hb); clear hb hbox hg; have hnb40 := NB226_218.out; have hnc40 := NB218_226.out; obtain ⟨hcz41_0, hcz41_1, hcz41_2, hfz41_0, hfz41_1, hfz41_2⟩ := cz3 BK226))
            have n0_ : Aside0 (Kd.R k25 25 (((w39.setCell ⟨gb226, 0, none⟩ (.int .i64 t223)).setCell ⟨gb226, 1, none⟩ (.int .i64 t224)).setCell ⟨gb226, 2, none⟩ (.int .i64 t225)) w.heap.size (fun k_ => k_ ≠ gb218 ∧ k_ ≠ gb226) u4 x4_2) := ⟨by (with_reducible repeat (first | apply uU | apply uS | apply uT)); exact uX (uV (p := ⟨gb226, 2, none⟩) (uV (p := ⟨gb226, 1, none⟩) (uV (p := ⟨gb226, 0, none⟩) (uX HO_4.out (fun k_ hk => (⟨hk, hk.2⟩ : _ ∧ k_ ≠ gb226))) (fun _ hk => hk.2) (.int .i64 t223)) (fun _ hk => hk.2) (.int .i64 t224)) (fun _ hk => hk.2) (.int .i64 t225)) (fun _ hk => ⟨hk.1.1, hk.1.2⟩)⟩
            have n1_ : Aside0 ((((w39.setCell ⟨gb226, 0, none⟩ (.int .i64 t223)).setCell ⟨gb226, 1, none⟩ (.int .i64 t224)).setCell ⟨gb226, 2, none⟩ (.int .i64 t225)).heap[gb218]? = some (.cells #[.int .i64 a0_0, .int .i64 a0_1, .int .i64 a0_2] 25 (0, 0))) := ⟨by exact ps BK218⟩
            have n2_ : Aside0 ((((w39.setCell ⟨gb226, 0, none⟩ (.int .i64 t223)).setCell ⟨gb226, 1, none⟩ (.int .i64 t224)).setCell ⟨gb226, 2, none⟩ (.int .i64 t225)).heap[gb226]? = some (.cells #[.int .i64 t223, .int .i64 t224, .int .i64 t225] 25 (0, 0))) := ⟨by (with_reducible repeat first|apply uH|apply uJ|apply uG); refine uP (cs := #[.int .i64 t223, .int .i64 t224, .int .i64 0]) ?_ 2 _ rfl; (with_reducible repeat first|apply uH|apply uJ|apply uG); refine uP (cs := #[.int .i64 t223, .int .i64 0, .int .i64 0]) ?_ 1 _ rfl; (with_reducible repeat first|apply uH|apply uJ|apply uG); refine uP (cs := #[.int .i64 0, .int .i64 0, .int .i64 0]) ?_ 0 _ rfl; (with_reducible repeat first|apply uH|apply uJ|apply uG); exact BK226.out⟩
            have n3_ : Aside0 (Below w.heap.size w (((w39.setCell ⟨gb226, 0, none⟩ (.int .i64 t223)).setCell ⟨gb226, 1, none⟩ (.int .i64 t224)).setCell ⟨gb226, 2, none⟩ (.int .i64 t225))) := ⟨pb HB⟩
            (try clear HO_4)
            (try clear BK218)
            (try clear BK226)
            (try clear HB)
            generalize (((w39.setCell ⟨gb226, 0, none⟩ (.int .i64 t223)).setCell ⟨gb226, 1, none⟩ (.int .i64 t224)).setCell ⟨gb226, 2, none⟩ (.int .i64 t225)) = w42 at n0_ n1_ n2_ n3_ ⊢
            have HO_4 := n0_
            have BK218 := n1_
            have BK226 := n2_
            have HB := n3_
            clear n0_ n1_ n2_ n3_
            replace HO_4 := uD (uT HO_4.out)
            replace BK218 := uD (uJ BK218.out)
            replace BK226 := uD (uJ BK226.out)
            replace HB := uD (uK HB.out)
            refine start_ (n := 14) (S := fun w' => w'.cell? ⟨gb226, 0, none⟩ = some (.int .i64 t223) ∧ w'.cell? ⟨gb226, 1, none⟩ = some (.int .i64 t224) ∧ w'.cell? ⟨gb226, 2, none⟩ = some (.int .i64 t225) ∧ w'.cell? ⟨gb218, 0, none⟩ = some (.int .i64 a0_0) ∧ w'.cell? ⟨gb218, 1, none⟩ = some (.int .i64 a0_1) ∧ w'.cell? ⟨gb218, 2, none⟩ = some (.int .i64 a0_2)) (ds := []) #[F,F,F,F,F,F,F,F,F,F,F,F,F,F] (by kernel_rfl) rfl rfl ⟨(uF BK226.out 0).trans rfl, (uF BK226.out 1).trans rfl, (uF BK226.out 2).trans rfl, (uF BK218.out 0).trans rfl, (uF BK218.out 1).trans rfl, (uF BK218.out 2).trans rfl⟩ (fun hHeld => ?_); refine with_tabW impl_NearTags.tab14 impl_NearTags.bits14 (fun HT_ HW_ => ?_)
            generalize w42.drew = w43 at HO_4 BK218 BK226 HB hHeld ⊢
            refine pu 0 (some 35) #[T,F,F,F,F,F,F,F,F,F,F,F,F,F] HT_ ?_
            refine pu 1 (some 36) #[T,T,F,F,F,F,F,F,F,F,F,F,F,F] HT_ ?_
            refine pu 2 (some 37) #[T,T,T,F,F,F,F,F,F,F,F,F,F,F] HT_ ?_
            refine pu 3 (some 38) #[T,T,T,T,F,F,F,F,F,F,F,F,F,F] HT_ ?_
            refine tk 4 (some 39) #[T,T,T,T,T,F,F,F,F,F,F,F,F,F] HT_ HW_ hHeld ?_
            refine one_ (i := 5) (N := some 40) #[T,T,T,T,T,T,F,F,F,F,F,F,F,F] rfl rfl (one_of HT_.out (by kernel_rfl)) (by decide) (fun K hK => ?_)
            refine goes_ Tryd.func33 (by kernel_rfl) rfl #[.agg #[.int .i64 t223, .int .i64 t224, .int .i64 t225]] (by rfl) rfl rfl (by (try simp only [List.map_toArray, List.map_cons, List.map_nil]); first | done | rfl | (simp only [List.length_drop, List.length_take]; rfl)) ?_
            with_reducible refine (impl_TagOk.calls t223 t224 t225 true _ A21.out).mono ?_
            rintro e w44 ⟨rfl, hb⟩
            refine ⟨_, rfl, ?_⟩
            replace HO_4 := uD (Kd.R_below (pr HO_4) hb)
            replace BK218 := uD (blk_below (pk BK218) hb)
            replace BK226 := uD (blk_below (pk BK226) hb)
            replace HB := uD (uO (pb HB) hb)
            (try clear hb)
            (try clear hb2)
            (try clear hk)
            (try clear hi)
            refine hK.out _ _ ⟨(uF BK226.out 0).trans rfl, (uF BK226.out 1).trans rfl, (uF BK226.out 2).trans rfl, (uF BK218.out 0).trans rfl, (uF BK218.out 1).trans rfl, (uF BK218.out 2).trans rfl⟩ (fun hHeld => ?_)
            clear hK K
            refine norm_ (a' := ?_) ?_ ?_
            rotate_left
            ·show uc _ (some 40) _ = _
             simp only [uc, uA, uB, uC, uZ, ua]
             rfl
            refine pu 6 (some 41) #[T,T,T,T,T,T,T,F,F,F,F,F,F,F] HT_ ?_
            refine pu 7 (some 42) #[T,T,T,T,T,T,T,T,F,F,F,F,F,F] HT_ ?_
            refine tk 8 (some 43) #[T,T,T,T,T,T,T,T,T,F,F,F,F,F] HT_ HW_ hHeld ?_
            refine tk 10 (some 45) #[T,T,T,T,T,T,T,T,T,F,T,F,F,F] HT_ HW_ hHeld ?_
            refine one_ (i := 9) (N := some 44) #[T,T,T,T,T,T,T,T,T,T,T,F,F,F] rfl rfl (one_of HT_.out (by kernel_rfl)) (by decide) (fun K hK => ?_)
            refine goes_ Tryd.func34 (by kernel_rfl) rfl #[.agg #[.int .i64 t223, .int .i64 t224, .int .i64 t225]] (by rfl) rfl rfl (by (try simp only [List.map_toArray, List.map_cons, List.map_nil]); first | done | rfl | (simp only [List.length_drop, List.length_take]; rfl)) ?_
            with_reducible refine (impl_TagCheck.calls t223 t224 t225 t228 _ A23.out).mono ?_
            rintro e w45 ⟨rfl, hb⟩
            refine ⟨_, rfl, ?_⟩
            replace HO_4 := uD (Kd.R_below (pr HO_4) hb)
            replace BK218 := uD (blk_below (pk BK218) hb)
            replace BK226 := uD (blk_below (pk BK226) hb)
            replace HB := uD (uO (pb HB) hb)
            (try clear hb)
            (try clear hb2)
            (try clear hk)
            (try clear hi)
            refine hK.out _ _ ⟨(uF BK226.out 0).trans rfl, (uF BK226.out 1).trans rfl, (uF BK226.out 2).trans rfl, (uF BK218.out 0).trans rfl, (uF BK218.out 1).trans rfl, (uF BK218.out 2).trans rfl⟩ (fun hHeld => ?_)
            clear hK K
            refine norm_ (a' := ?_) ?_ ?_
            rotate_left
            ·show uc _ (some 44) _ = _
             simp only [uc, uA, uB, uC, uZ, ua]
             rfl
            refine one_ (i := 11) (N := some 46) #[T,T,T,T,T,T,T,T,T,T,T,T,F,F] rfl rfl (one_of HT_.out (by kernel_rfl)) (by decide) (fun K hK => ?_)
            refine goes_ Tryd.func34 (by kernel_rfl) rfl #[.agg #[.int .i64 a0_0, .int .i64 a0_1, .int .i64 a0_2]] (by rfl) rfl rfl (by (try simp only [List.map_toArray, List.map_cons, List.map_nil]); first | done | rfl | (simp only [List.length_drop, List.length_take]; rfl)) ?_
            with_reducible refine (impl_TagCheck.calls a0_0 a0_1 a0_2 t229 _ A24.out).mono ?_
            rintro e w46 ⟨rfl, hb⟩
            refine ⟨_, rfl, ?_⟩
            replace HO_4 := uD (Kd.R_below (pr HO_4) hb)
            replace BK218 := uD (blk_below (pk BK218) hb)
            replace BK226 := uD (blk_below (pk BK226) hb)
            replace HB := uD (uO (pb HB) hb)
            (try clear hb)
            (try clear hb2)
            (try clear hk)
            (try clear hi)
            refine hK.out _ _ ⟨(uF BK226.out 0).trans rfl, (uF BK226.out 1).trans rfl, (uF BK226.out 2).trans rfl, (uF BK218.out 0).trans rfl, (uF BK218.out 1).trans rfl, (uF BK218.out 2).trans rfl⟩ (fun hHeld => ?_)
            clear hK K
            refine norm_ (a' := ?_) ?_ ?_
            rotate_left
            ·show uc _ (some 46) _ = _
             simp only [uc, uA, uB, uC, uZ, ua]
             rfl
            refine pu 12 (some 47) #[T,T,T,T,T,T,T,T,T,T,T,T,T,F] HT_ ?_
            refine pu 13 (some 48) #[T,T,T,T,T,T,T,T,T,T,T,T,T,T] HT_ ?_
            refine done_ (done_of HT_.out (by kernel_rfl)) ?_
            try go_wp2
            go_roundg k2
            case measure => have := HK1.out; have := HK2.out; omega
            case rel => exact ⟨(x4_2), (wrap64 (x7_2 + 1)), (by first | rfl | (simp; done) | (simp [*]; done)), H', ⟨by have := HK1.out; have := HK2.out; omega⟩, ⟨by (with_reducible repeat (first | apply uU | apply uS | apply uT)); exact uX HO_4.out (fun _ hk => hk.1)⟩, ⟨by (with_reducible repeat first|apply uH|apply uJ|apply uG); exact BK218.out⟩, ⟨pb HB⟩⟩
          ·replace c22 := Bool.eq_false_iff.mpr c22
           subst c22
           have H1 : (impl_NearTags.l1 k2 t219 x4_2 x5_1 (Int.tmod (wrap64 (Int.tdiv t219 x5_1)) 10) (wrap64 (x7_2 + 1)) a0_0 a0_1 a0_2) = some r := by rw [if_neg (show ¬ (false = true) by decide)] at H; first | done | exact H
           clear H
           have H := H1
           clear H1
           have H' := uD H
           clear H
           try go_wp2_with (first | ((with_reducible refine gate_callee (f := 50) rfl ?_); refine gl (some 34) Tryd.func50 #[.int .i64 (wrap64 (t219 + (wrap64 ((wrap64 (x7_2 - (Int.tmod (wrap64 (Int.tdiv t219 x5_1)) 10))) * x5_1))))] ?_; (with_reducible refine (impl_tagOf.calls (wrap64 (t219 + (wrap64 ((wrap64 (x7_2 - (Int.tmod (wrap64 (Int.tdiv t219 x5_1)) 10))) * x5_1)))) t223 t224 t225 _ A13.out).mono ?_); rintro e w47 ⟨rfl, hb⟩; refine ⟨_, rfl, ?_⟩; replace HO_4 := uD (Kd.R_below (pr HO_4) hb); replace BK218 := uD (blk_below (pk BK218) hb); replace HB := uD (uO (pb HB) hb); (try clear hb); (try clear hb2); (try clear hk); (try clear hi)) | ((with_reducible refine gate_dst (N := 9) rfl ?_); refine bx 9 #[.int .i64 0, .int .i64 0, .int .i64 0] 25 ?_; intro gb226 hg w48 hbox hb; replace HO_4 := uD (Kd.R_below (Kd.R_elderB (pr HO_4) gb226 (Nat.le_of_eq hg.symm)) hb); have BK226 := uD (hbox); have GW226 := uD ((by rw [hg]; exact (uN (pb HB)) : w.heap.size ≤ gb226)); have GE226 := uD ((by rw [hg]; exact (uN (pb HB)) : w.heap.size ≤ gb226)); replace HB := uD (uO (pb HB) hb); have NB218_226 := uD ((by rw [hg]; exact Nat.ne_of_lt (blk_lt (pk BK218)) : gb218 ≠ gb226)); have NB226_218 := uD ((by rw [hg]; exact Nat.ne_of_gt (blk_lt (pk BK218)) : gb226 ≠ gb218)); replace BK218 := uD (blk_below (pk BK218) hb); clear hb hbox hg; have hnb49 := NB226_218.out; have hnc49 := NB218_226.out; obtain ⟨hcz50_0, hcz50_1, hcz50_2, hfz50_0, hfz50_1, hfz50_2⟩ := cz3 BK226))
           have n0_ : Aside0 (Kd.R k25 25 (((w48.setCell ⟨gb226, 0, none⟩ (.int .i64 t223)).setCell ⟨gb226, 1, none⟩ (.int .i64 t224)).setCell ⟨gb226, 2, none⟩ (.int .i64 t225)) w.heap.size (fun k_ => k_ ≠ gb218 ∧ k_ ≠ gb226) u4 x4_2) := ⟨by (with_reducible repeat (first | apply uU | apply uS | apply uT)); exact uX (uV (p := ⟨gb226, 2, none⟩) (uV (p := ⟨gb226, 1, none⟩) (uV (p := ⟨gb226, 0, none⟩) (uX HO_4.out (fun k_ hk => (⟨hk, hk.2⟩ : _ ∧ k_ ≠ gb226))) (fun _ hk => hk.2) (.int .i64 t223)) (fun _ hk => hk.2) (.int .i64 t224)) (fun _ hk => hk.2) (.int .i64 t225)) (fun _ hk => ⟨hk.1.1, hk.1.2⟩)⟩
           have n1_ : Aside0 ((((w48.setCell ⟨gb226, 0, none⟩ (.int .i64 t223)).setCell ⟨gb226, 1, none⟩ (.int .i64 t224)).setCell ⟨gb226, 2, none⟩ (.int .i64 t225)).heap[gb218]? = some (.cells #[.int .i64 a0_0, .int .i64 a0_1, .int .i64 a0_2] 25 (0, 0))) := ⟨by exact ps BK218⟩
           have n2_ : Aside0 ((((w48.setCell ⟨gb226, 0, none⟩ (.int .i64 t223)).setCell ⟨gb226, 1, none⟩ (.int .i64 t224)).setCell ⟨gb226, 2, none⟩ (.int .i64 t225)).heap[gb226]? = some (.cells #[.int .i64 t223, .int .i64 t224, .int .i64 t225] 25 (0, 0))) := ⟨by (with_reducible repeat first|apply uH|apply uJ|apply uG); refine uP (cs := #[.int .i64 t223, .int .i64 t224, .int .i64 0]) ?_ 2 _ rfl; (with_reducible repeat first|apply uH|apply uJ|apply uG); refine uP (cs := #[.int .i64 t223, .int .i64 0, .int .i64 0]) ?_ 1 _ rfl; (with_reducible repeat first|apply uH|apply uJ|apply uG); refine uP (cs := #[.int .i64 0, .int .i64 0, .int .i64 0]) ?_ 0 _ rfl; (with_reducible repeat first|apply uH|apply uJ|apply uG); exact BK226.out⟩
           have n3_ : Aside0 (Below w.heap.size w (((w48.setCell ⟨gb226, 0, none⟩ (.int .i64 t223)).setCell ⟨gb226, 1, none⟩ (.int .i64 t224)).setCell ⟨gb226, 2, none⟩ (.int .i64 t225))) := ⟨pb HB⟩
           (try clear HO_4)
           (try clear BK218)
           (try clear BK226)
           (try clear HB)
           generalize (((w48.setCell ⟨gb226, 0, none⟩ (.int .i64 t223)).setCell ⟨gb226, 1, none⟩ (.int .i64 t224)).setCell ⟨gb226, 2, none⟩ (.int .i64 t225)) = w51 at n0_ n1_ n2_ n3_ ⊢
           have HO_4 := n0_
           have BK218 := n1_
           have BK226 := n2_
           have HB := n3_
           clear n0_ n1_ n2_ n3_
           replace HO_4 := uD (uT HO_4.out)
           replace BK218 := uD (uJ BK218.out)
           replace BK226 := uD (uJ BK226.out)
           replace HB := uD (uK HB.out)
           refine start_ (n := 14) (S := fun w' => w'.cell? ⟨gb226, 0, none⟩ = some (.int .i64 t223) ∧ w'.cell? ⟨gb226, 1, none⟩ = some (.int .i64 t224) ∧ w'.cell? ⟨gb226, 2, none⟩ = some (.int .i64 t225)) (ds := []) #[F,F,F,F,F,F,F,F,F,F,F,F,F,F] (by kernel_rfl) rfl rfl ⟨(uF BK226.out 0).trans rfl, (uF BK226.out 1).trans rfl, (uF BK226.out 2).trans rfl⟩ (fun hHeld => ?_); refine with_tabW impl_NearTags.tab14 impl_NearTags.bits14 (fun HT_ HW_ => ?_)
           generalize w51.drew = w52 at HO_4 BK218 BK226 HB hHeld ⊢
           refine pu 0 (some 35) #[T,F,F,F,F,F,F,F,F,F,F,F,F,F] HT_ ?_
           refine pu 1 (some 36) #[T,T,F,F,F,F,F,F,F,F,F,F,F,F] HT_ ?_
           refine pu 2 (some 37) #[T,T,T,F,F,F,F,F,F,F,F,F,F,F] HT_ ?_
           refine pu 3 (some 38) #[T,T,T,T,F,F,F,F,F,F,F,F,F,F] HT_ ?_
           refine tk 4 (some 39) #[T,T,T,T,T,F,F,F,F,F,F,F,F,F] HT_ HW_ hHeld ?_
           refine one_ (i := 5) (N := some 40) #[T,T,T,T,T,T,F,F,F,F,F,F,F,F] rfl rfl (one_of HT_.out (by kernel_rfl)) (by decide) (fun K hK => ?_)
           refine goes_ Tryd.func33 (by kernel_rfl) rfl #[.agg #[.int .i64 t223, .int .i64 t224, .int .i64 t225]] (by rfl) rfl rfl (by (try simp only [List.map_toArray, List.map_cons, List.map_nil]); first | done | rfl | (simp only [List.length_drop, List.length_take]; rfl)) ?_
           with_reducible refine (impl_TagOk.calls t223 t224 t225 false _ A21.out).mono ?_
           rintro e w53 ⟨rfl, hb⟩
           refine ⟨_, rfl, ?_⟩
           replace HO_4 := uD (Kd.R_below (pr HO_4) hb)
           replace BK218 := uD (blk_below (pk BK218) hb)
           replace BK226 := uD (blk_below (pk BK226) hb)
           replace HB := uD (uO (pb HB) hb)
           (try clear hb)
           (try clear hb2)
           (try clear hk)
           (try clear hi)
           refine hK.out _ _ ⟨(uF BK226.out 0).trans rfl, (uF BK226.out 1).trans rfl, (uF BK226.out 2).trans rfl⟩ (fun hHeld => ?_)
           clear hK K
           refine norm_ (a' := ?_) ?_ ?_
           rotate_left
           ·show uc _ (some 40) _ = _
            simp only [uc, uA, uB, uC, uZ, ua]
            rfl
           refine pu 6 (some 41) #[T,T,T,T,T,T,T,F,F,F,F,F,F,F] HT_ ?_
           refine pu 7 (some 42) #[T,T,T,T,T,T,T,T,F,F,F,F,F,F] HT_ ?_
           refine ub (i := 8) (N := some 43) (v := undef) (a' := ?_) #[T,T,T,T,T,T,T,T,T,F,F,F,F,F] rfl rfl (uY HT_.out (by kernel_rfl)) (fun _ _ _ h => h) (Or.inr ⟨by rfl, rfl⟩) ?_ ?_
           rotate_left
           ·simp only [uc, uA, uB, uC, uZ, ua]
            rfl
           refine ub (i := 9) (N := some 44) (v := undef) (a' := ?_) #[T,T,T,T,T,T,T,T,T,T,F,F,F,F] rfl rfl (uY HT_.out (by kernel_rfl)) (fun _ _ _ h => h) (Or.inr ⟨by rfl, rfl⟩) ?_ ?_
           rotate_left
           ·simp only [uc, uA, uB, uC, uZ, ua]
            rfl
           refine ub (i := 10) (N := some 45) (v := undef) (a' := ?_) #[T,T,T,T,T,T,T,T,T,T,T,F,F,F] rfl rfl (uY HT_.out (by kernel_rfl)) (fun _ _ _ h => h) (Or.inr ⟨by rfl, rfl⟩) ?_ ?_
           rotate_left
           ·simp only [uc, uA, uB, uC, uZ, ua]
            rfl
           refine ub (i := 11) (N := some 46) (v := undef) (a' := ?_) #[T,T,T,T,T,T,T,T,T,T,T,T,F,F] rfl rfl (uY HT_.out (by kernel_rfl)) (fun _ _ _ h => h) (Or.inr ⟨by rfl, rfl⟩) ?_ ?_
           rotate_left
           ·simp only [uc, uA, uB, uC, uZ, ua]
            rfl
           refine ub (i := 12) (N := some 47) (v := undef) (a' := ?_) #[T,T,T,T,T,T,T,T,T,T,T,T,T,F] rfl rfl (uY HT_.out (by kernel_rfl)) (fun _ _ _ h => h) (Or.inr ⟨by rfl, rfl⟩) ?_ ?_
           rotate_left
           ·simp only [uc, uA, uB, uC, uZ, ua]
            rfl
           refine pu 13 (some 48) #[T,T,T,T,T,T,T,T,T,T,T,T,T,T] HT_ ?_
           refine done_ (done_of HT_.out (by kernel_rfl)) ?_
           try go_wp2
           go_roundg k2
           case measure => have := HK1.out; have := HK2.out; omega
           case rel => exact ⟨(x4_2), (wrap64 (x7_2 + 1)), (by first | rfl | (simp; done) | (simp [*]; done)), H', ⟨by have := HK1.out; have := HK2.out; omega⟩, ⟨by (with_reducible repeat (first | apply uU | apply uS | apply uT)); exact uX HO_4.out (fun _ hk => hk.1)⟩, ⟨by (with_reducible repeat first|apply uH|apply uJ|apply uG); exact BK218.out⟩, ⟨pb HB⟩⟩
        ·rw [if_neg c12] at H
         have c12b0 : decide (x7_2 ≤ 9) = false := decide_eq_false c12
         clear c12
         have H' := uD H
         clear H
         go_wp2
         go_roundg k2
         case measure => have := HK1.out; have := HK2.out; omega
         case rel => exact ⟨(x4_2), (wrap64 (Int.tdiv x5_1 10)), (by first | rfl | (simp; done) | (simp [*]; done)), H', ⟨by have := HK1.out; have := HK2.out; omega⟩, ⟨by (with_reducible repeat (first | apply uU | apply uS | apply uT)); exact HO_4.out⟩, ⟨by (with_reducible repeat first|apply uH|apply uJ|apply uG); exact BK218.out⟩, ⟨pb HB⟩⟩
    ·rw [if_neg c10] at H
     have c10b0 : decide (0 < x5_1) = false := decide_eq_false c10
     clear c10
     replace H := Option.bind_eq_some_iff.mp H
     obtain ⟨t220, A540, H⟩ := H
     replace H : (some t220) = some r := H
     have A54 := uD A540
     clear A540
     obtain rfl := Option.some.inj H
     obtain ⟨Ao55, co55, eo55⟩ := Kd.R_slice HO_4.out
     subst eo55
     go_wp2_with (first | ((with_reducible refine gate_callee (f := 51) rfl ?_); refine gl (some 54) Tryd.func51 #[.slice Ao55 x4_1.length co55] ?_; (with_reducible refine (impl_ascending.calls k1 (fun k_ => some k_ = (.slice Ao55 x4_1.length co55 : Value).ownBlock) (.slice Ao55 x4_1.length co55) x4_1 t220 w _ ?side1 ?side2 A54.out).mono ?_); (case side1 => repeat (first | (with_reducible first | exact HB.out | apply uL | apply uE | apply uK | refine uM ?_ GE218.out) | exact HB.out)); (case side2 => exact Kd.R_tight rfl HO_4.out); rintro e w56 ⟨v221, rfl, ho0, hb, hkp⟩; refine ⟨_, rfl, ?_⟩; have HO222 := uD (uX (ok' := fun k_ => k_ ≠ gb218) ho0 (fun k_ hk_ => Or.elim hk_ (fun hs_ => fun e_ => (Kd.R_away HO_4.out (fun _ hk => hk)) (by rw [← e_]; exact hs_)) (fun hn_ => (Kd.freshB (pk BK218) k_ hn_)))); replace BK218 := uD (blk_kept (pk BK218) hkp (fun hs_ => (fun e_ => (Kd.R_away HO_4.out (fun _ hk => hk)) e_) hs_)); replace HB := uD (hb); clear HO_4; (try clear hb); (try clear hkp); (try clear ho0)))
     go_ret
     exact ⟨_, by first | rfl | (simp [errW_none, errW_some] <;> rfl) | (simp [*, errW_none, errW_some] <;> rfl), by (with_reducible repeat (first | apply uU | apply uS | apply uT)); exact uX HO222.out (fun _ hk => trivial), pb HB⟩

/-! ### spec_l01In: function 60 -/
def spec_l01In.f (a0 : Int) (a1 : Int) (a2 : Int) : Option (Bool) := if a0 ≥ a1 then (some (decide (a0 ≤ a2))) else (some false)
set_option maxHeartbeats 8000000 in
set_option maxRecDepth 100000 in
theorem spec_l01In.calls (a0 : Int) (a1 : Int) (a2 : Int) (r : Bool) (w : World) (h : spec_l01In.f a0 a1 a2 = some r) :
  Calls Tryd.prog 60 #[.int .i64 a0, .int .i64 a1, .int .i64 a2] w fun e w' => e = .returned (.bool r) ∧ Drawn0 w w' := by
 have H : (if a0 ≥ a1 then (some (decide (a0 ≤ a2))) else (some false)) = some r := h
 clear h
 by_cases c4 : a0 ≥ a1
 ·rw [if_pos c4] at H
  have c4b0 : decide (a1 ≤ a0) = true := decide_eq_true c4
  clear c4
  obtain rfl := Option.some.inj H
  go_enter Tryd.func60, Tryd.ntmps60
  go_wp2
  go_ret
  exact ⟨by first | rfl | (simp; done) | (simp [*]; done), by repeat (first | exact Drawn0.refl _ | apply Drawn0.step)⟩
 ·rw [if_neg c4] at H
  have c4b0 : decide (a1 ≤ a0) = false := decide_eq_false c4
  clear c4
  obtain rfl := Option.some.inj H
  go_enter Tryd.func60, Tryd.ntmps60
  go_wp2
  go_ret
  exact ⟨by first | rfl | (simp; done) | (simp [*]; done), by repeat (first | exact Drawn0.refl _ | apply Drawn0.step)⟩

/-! ### spec_TagOk: function 42 -/
def spec_TagOk.f (a0_0 : Int) (a0_1 : Int) (a0_2 : Int) : Option (Bool) := (spec_l01In.f a0_0 0 9).bind fun t234 => (if t234 = true then ((spec_l01In.f a0_1 1 999).bind fun t235 => (if t235 = true then ((spec_l01In.f a0_2 0 999999).bind fun t236 => (some t236)) else (some false))) else (some false))
set_option maxHeartbeats 8000000 in
set_option maxRecDepth 100000 in
theorem spec_TagOk.calls (a0_0 : Int) (a0_1 : Int) (a0_2 : Int) (r : Bool) (w : World) (h : spec_TagOk.f a0_0 a0_1 a0_2 = some r) :
  Calls Tryd.prog 42 #[.agg #[.int .i64 a0_0, .int .i64 a0_1, .int .i64 a0_2]] w fun e w' => e = .returned (.bool r) ∧ Below w.heap.size w w' := by
 have hu25 := Tryd.underlying25
 have HB := uD (Below.refl w.heap.size w)
 have H : ((spec_l01In.f a0_0 0 9).bind fun t234 => (if t234 = true then ((spec_l01In.f a0_1 1 999).bind fun t235 => (if t235 = true then ((spec_l01In.f a0_2 0 999999).bind fun t236 => (some t236)) else (some false))) else (some false))) = some r := h
 clear h
 replace H := Option.bind_eq_some_iff.mp H
 obtain ⟨t234, A20, H⟩ := H
 replace H : (if t234 = true then ((spec_l01In.f a0_1 1 999).bind fun t235 => (if t235 = true then ((spec_l01In.f a0_2 0 999999).bind fun t236 => (some t236)) else (some false))) else (some false)) = some r := H
 have A2 := uD A20
 clear A20
 by_cases c3 : t234 = true
 ·subst c3
  have H1 : ((spec_l01In.f a0_1 1 999).bind fun t235 => (if t235 = true then ((spec_l01In.f a0_2 0 999999).bind fun t236 => (some t236)) else (some false))) = some r := by rw [if_pos rfl] at H; first | done | exact H
  clear H
  have H := H1
  clear H1
  replace H := Option.bind_eq_some_iff.mp H
  obtain ⟨t235, A40, H⟩ := H
  replace H : (if t235 = true then ((spec_l01In.f a0_2 0 999999).bind fun t236 => (some t236)) else (some false)) = some r := H
  have A4 := uD A40
  clear A40
  by_cases c5 : t235 = true
  ·subst c5
   have H1 : ((spec_l01In.f a0_2 0 999999).bind fun t236 => (some t236)) = some r := by rw [if_pos rfl] at H; first | done | exact H
   clear H
   have H := H1
   clear H1
   replace H := Option.bind_eq_some_iff.mp H
   obtain ⟨t236, A60, H⟩ := H
   replace H : (some t236) = some r := H
   have A6 := uD A60
   clear A60
   obtain rfl := Option.some.inj H
   go_enter Tryd.func42, Tryd.ntmps42
   go_wp2_with (first | ((with_reducible refine gate_dst (N := 1) rfl ?_); refine bx 1 #[.int .i64 a0_0, .int .i64 a0_1, .int .i64 a0_2] 25 ?_; intro gb233 hg w7 hbox hb; have BK233 := uD (hbox); have GW233 := uD ((by rw [hg]; exact (uN (pb HB)) : w.heap.size ≤ gb233)); have GE233 := uD ((by rw [hg]; exact (uN (pb HB)) : w.heap.size ≤ gb233)); replace HB := uD (uO (pb HB) hb); clear hb hbox hg; obtain ⟨hcz8_0, hcz8_1, hcz8_2, hfz8_0, hfz8_1, hfz8_2⟩ := cz3 BK233) | ((with_reducible refine gate_callee (f := 60) rfl ?_); refine gl (some 5) Tryd.func60 #[.int .i64 a0_0, .int .i64 0, .int .i64 9] ?_; (with_reducible refine (spec_l01In.calls a0_0 0 9 true _ A2.out).mono ?_); rintro e w' ⟨rfl, ⟨nd, rfl⟩⟩; refine ⟨_, rfl, ?_⟩) | (go_at_call 60; (with_reducible refine (spec_l01In.calls a0_1 1 999 true _ A4.out).mono ?_); rintro e w' ⟨rfl, ⟨nd, rfl⟩⟩) | (go_at_call 60; (with_reducible refine (spec_l01In.calls a0_2 0 999999 t236 _ A6.out).mono ?_); rintro e w' ⟨rfl, ⟨nd, rfl⟩⟩))
   go_ret
   exact ⟨by first | rfl | (simp [errW_none, errW_some] <;> rfl) | (simp [*, errW_none, errW_some] <;> rfl), pb HB⟩
  ·replace c5 := Bool.eq_false_iff.mpr c5
   subst c5
   have H1 : (some false) = some r := by rw [if_neg (show ¬ (false = true) by decide)] at H; first | done | exact H
   clear H
   have H := H1
   clear H1
   obtain rfl := Option.some.inj H
   go_enter Tryd.func42, Tryd.ntmps42
   go_wp2_with (first | ((with_reducible refine gate_dst (N := 1) rfl ?_); refine bx 1 #[.int .i64 a0_0, .int .i64 a0_1, .int .i64 a0_2] 25 ?_; intro gb233 hg w9 hbox hb; have BK233 := uD (hbox); have GW233 := uD ((by rw [hg]; exact (uN (pb HB)) : w.heap.size ≤ gb233)); have GE233 := uD ((by rw [hg]; exact (uN (pb HB)) : w.heap.size ≤ gb233)); replace HB := uD (uO (pb HB) hb); clear hb hbox hg; obtain ⟨hcz10_0, hcz10_1, hcz10_2, hfz10_0, hfz10_1, hfz10_2⟩ := cz3 BK233) | ((with_reducible refine gate_callee (f := 60) rfl ?_); refine gl (some 5) Tryd.func60 #[.int .i64 a0_0, .int .i64 0, .int .i64 9] ?_; (with_reducible refine (spec_l01In.calls a0_0 0 9 true _ A2.out).mono ?_); rintro e w' ⟨rfl, ⟨nd, rfl⟩⟩; refine ⟨_, rfl, ?_⟩) | (go_at_call 60; (with_reducible refine (spec_l01In.calls a0_1 1 999 false _ A4.out).mono ?_); rintro e w' ⟨rfl, ⟨nd, rfl⟩⟩))
   go_ret
   exact ⟨by first | rfl | (simp [errW_none, errW_some] <;> rfl) | (simp [*, errW_none, errW_some] <;> rfl), pb HB⟩
 ·replace c3 := Bool.eq_false_iff.mpr c3
  subst c3
  have H1 : (some false) = some r := by rw [if_neg (show ¬ (false = true) by decide)] at H; first | done | exact H
  clear H
  have H := H1
  clear H1
  obtain rfl := Option.some.inj H
  go_enter Tryd.func42, Tryd.ntmps42
  go_wp2_with (first | ((with_reducible refine gate_dst (N := 1) rfl ?_); refine bx 1 #[.int .i64 a0_0, .int .i64 a0_1, .int .i64 a0_2] 25 ?_; intro gb233 hg w11 hbox hb; have BK233 := uD (hbox); have GW233 := uD ((by rw [hg]; exact (uN (pb HB)) : w.heap.size ≤ gb233)); have GE233 := uD ((by rw [hg]; exact (uN (pb HB)) : w.heap.size ≤ gb233)); replace HB := uD (uO (pb HB) hb); clear hb hbox hg; obtain ⟨hcz12_0, hcz12_1, hcz12_2, hfz12_0, hfz12_1, hfz12_2⟩ := cz3 BK233) | ((with_reducible refine gate_callee (f := 60) rfl ?_); refine gl (some 5) Tryd.func60 #[.int .i64 a0_0, .int .i64 0, .int .i64 9] ?_; (with_reducible refine (spec_l01In.calls a0_0 0 9 false _ A2.out).mono ?_); rintro e w' ⟨rfl, ⟨nd, rfl⟩⟩; refine ⟨_, rfl, ?_⟩))
  go_ret
  exact ⟨by first | rfl | (simp [errW_none, errW_some] <;> rfl) | (simp [*, errW_none, errW_some] <;> rfl), pb HB⟩

/-! ### spec_TagNumber: function 35 -/
def spec_TagNumber.f (a0_0 : Int) (a0_1 : Int) (a0_2 : Int) : Option (Int) := (spec_TagOk.f a0_0 a0_1 a0_2).bind fun t238 => (if t238 = true then (some (wrap64 ((wrap64 ((wrap64 ((wrap64 (a0_0 * 1000)) + a0_1)) * 1000000)) + a0_2))) else (some (-1)))
set_option maxHeartbeats 8000000 in
set_option maxRecDepth 100000 in
theorem spec_TagNumber.calls (a0_0 : Int) (a0_1 : Int) (a0_2 : Int) (r : Int) (w : World) (h : spec_TagNumber.f a0_0 a0_1 a0_2 = some r) :
  Calls Tryd.prog 35 #[.agg #[.int .i64 a0_0, .int .i64 a0_1, .int .i64 a0_2]] w fun e w' => e = .returned (.int .i64 r) ∧ Below w.heap.size w w' := by
 have hu25 := Tryd.underlying25
 have HB := uD (Below.refl w.heap.size w)
 have H : ((spec_TagOk.f a0_0 a0_1 a0_2).bind fun t238 => (if t238 = true then (some (wrap64 ((wrap64 ((wrap64 ((wrap64 (a0_0 * 1000)) + a0_1)) * 1000000)) + a0_2))) else (some (-1)))) = some r := h
 clear h
 replace H := Option.bind_eq_some_iff.mp H
 obtain ⟨t238, A20, H⟩ := H
 replace H : (if t238 = true then (some (wrap64 ((wrap64 ((wrap64 ((wrap64 (a0_0 * 1000)) + a0_1)) * 1000000)) + a0_2))) else (some (-1))) = some r := H
 have A2 := uD A20
 clear A20
 by_cases c3 : t238 = true
 ·subst c3
  have H1 : (some (wrap64 ((wrap64 ((wrap64 ((wrap64 (a0_0 * 1000)) + a0_1)) * 1000000)) + a0_2))) = some r := by rw [if_pos rfl] at H; first | done | exact H
  clear H
  have H := H1
  clear H1
  obtain rfl := Option.some.inj H
  go_enter Tryd.func35, Tryd.ntmps35
  go_wp2_with (first | ((with_reducible refine gate_dst (N := 1) rfl ?_); refine bx 1 #[.int .i64 a0_0, .int .i64 a0_1, .int .i64 a0_2] 25 ?_; intro gb237 hg w4 hbox hb; have BK237 := uD (hbox); have GW237 := uD ((by rw [hg]; exact (uN (pb HB)) : w.heap.size ≤ gb237)); have GE237 := uD ((by rw [hg]; exact (uN (pb HB)) : w.heap.size ≤ gb237)); replace HB := uD (uO (pb HB) hb); clear hb hbox hg; obtain ⟨hcz5_0, hcz5_1, hcz5_2, hfz5_0, hfz5_1, hfz5_2⟩ := cz3 BK237) | ((with_reducible refine gate_callee (f := 42) rfl ?_); refine gl (some 4) Tryd.func42 #[.agg #[.int .i64 a0_0, .int .i64 a0_1, .int .i64 a0_2]] ?_; (with_reducible refine (spec_TagOk.calls a0_0 a0_1 a0_2 true _ A2.out).mono ?_); rintro e w6 ⟨rfl, hb⟩; refine ⟨_, rfl, ?_⟩; replace BK237 := uD (blk_below (pk BK237) hb); replace HB := uD (uO (pb HB) hb); (try clear hb); (try clear hb2); (try clear hk); (try clear hi); obtain ⟨hcz7_0, hcz7_1, hcz7_2, hfz7_0, hfz7_1, hfz7_2⟩ := cz3 BK237))
  go_ret
  exact ⟨by first | rfl | (simp [errW_none, errW_some] <;> rfl) | (simp [*, errW_none, errW_some] <;> rfl), pb HB⟩
 ·replace c3 := Bool.eq_false_iff.mpr c3
  subst c3
  have H1 : (some (-1)) = some r := by rw [if_neg (show ¬ (false = true) by decide)] at H; first | done | exact H
  clear H
  have H := H1
  clear H1
  obtain rfl := Option.some.inj H
  go_enter Tryd.func35, Tryd.ntmps35
  go_wp2_with (first | ((with_reducible refine gate_dst (N := 1) rfl ?_); refine bx 1 #[.int .i64 a0_0, .int .i64 a0_1, .int .i64 a0_2] 25 ?_; intro gb237 hg w8 hbox hb; have BK237 := uD (hbox); have GW237 := uD ((by rw [hg]; exact (uN (pb HB)) : w.heap.size ≤ gb237)); have GE237 := uD ((by rw [hg]; exact (uN (pb HB)) : w.heap.size ≤ gb237)); replace HB := uD (uO (pb HB) hb); clear hb hbox hg; obtain ⟨hcz9_0, hcz9_1, hcz9_2, hfz9_0, hfz9_1, hfz9_2⟩ := cz3 BK237) | ((with_reducible refine gate_callee (f := 42) rfl ?_); refine gl (some 4) Tryd.func42 #[.agg #[.int .i64 a0_0, .int .i64 a0_1, .int .i64 a0_2]] ?_; (with_reducible refine (spec_TagOk.calls a0_0 a0_1 a0_2 false _ A2.out).mono ?_); rintro e w10 ⟨rfl, hb⟩; refine ⟨_, rfl, ?_⟩; replace BK237 := uD (blk_below (pk BK237) hb); replace HB := uD (uO (pb HB) hb); (try clear hb); (try clear hb2); (try clear hk); (try clear hi)))
  go_ret
  exact ⟨by first | rfl | (simp [errW_none, errW_some] <;> rfl) | (simp [*, errW_none, errW_some] <;> rfl), pb HB⟩

/-! ### spec_l01Ten: function 43 -/
def spec_l01Ten.l0 : Nat → Int → List Int → Int → Option (ByteArray)
 | 0, _, _, _ => none
 | k + 1, x0, x3, x4 => if x4 ≥ 0 then (if 0 ≤ x4 then (if x4 < (x3.length : Int) then (spec_l01Ten.l0 k (wrap64 (Int.tdiv x0 10)) (x3.set (x4 : Int).toNat ((wrap64 (48 + (Int.tmod x0 10))) % 256)) (wrap64 (x4 - 1))) else (none)) else (none)) else (some (strOfNums x3))
def spec_l01Ten.f (k : Nat) (a0 : Int) : Option (ByteArray) := if 10 ≤ 281474976710656 then (spec_l01Ten.l0 k a0 (List.replicate 10 0) 9) else (none)
theorem spec_l01Ten.mono_l : ∀ k, (∀ y0 y1 y2, LeO (spec_l01Ten.l0 k y0 y1 y2) (spec_l01Ten.l0 (k + 1) y0 y1 y2))
 | 0 => fun _ _ _ r h => by simp [spec_l01Ten.l0] at h
 | k + 1 => by
  have ih0 := spec_l01Ten.mono_l k
  ·intro y0 y1 y2
   unfold spec_l01Ten.l0
   repeat' first
   | (with_reducible exact ih0 _ _ _)
   | (with_reducible exact LeO.refl _)
   | (with_reducible exact LeO.none _)
   | (with_reducible refine LeO.ite ?_ ?_)
   | (with_reducible refine LeO.bind ?_ (fun _ => ?_))
   | exact ih0 _ _ _
   | exact LeO.none _
   | refine LeO.ite ?_ ?_
   | refine LeO.bind ?_ (fun _ => ?_)
theorem spec_l01Ten.mono : ∀ a0 k, LeO (spec_l01Ten.f k a0) (spec_l01Ten.f (k + 1) a0) := by
 intro a0 k
 have ih0 := spec_l01Ten.mono_l k
 unfold spec_l01Ten.f
 repeat' first
   | (with_reducible exact ih0 _ _ _)
   | (with_reducible exact LeO.refl _)
   | (with_reducible exact LeO.none _)
   | (with_reducible refine LeO.ite ?_ ?_)
   | (with_reducible refine LeO.bind ?_ (fun _ => ?_))
   | exact ih0 _ _ _
   | exact LeO.none _
   | refine LeO.ite ?_ ?_
   | refine LeO.bind ?_ (fun _ => ?_)
set_option maxHeartbeats 8000000 in
set_option maxRecDepth 100000 in
theorem spec_l01Ten.calls (k : Nat) (a0 : Int) (r : ByteArray) (w : World) (h : spec_l01Ten.f k a0 = some r) :
  Calls Tryd.prog 43 #[.int .i64 a0] w fun e w' => e = .returned (.string r) ∧ Below w.heap.size w w' := by
 have HB := uD (Below.refl w.heap.size w)
 have H : (if 10 ≤ 281474976710656 then (spec_l01Ten.l0 k a0 (List.replicate 10 0) 9) else (none)) = some r := h
 clear h
 by_cases c2 : 10 ≤ 281474976710656
 ·rw [if_pos c2] at H
  have c2b0 := eq_true c2
  have c2b1 : decide (10 ≤ 281474976710656) = true := decide_eq_true c2
  clear c2
  obtain ⟨y239, hy239⟩ : ∃ y_ : List Int, y_ = (List.replicate 10 0) := ⟨_, rfl⟩
  replace H : (spec_l01Ten.l0 k a0 y239 9) = some r := by first | (rw [hy239]; with_reducible exact H) | (have H2_ := (Option.bind_some _ _).symm.trans H; rw [hy239]; with_reducible exact H2_) | (have H2_ := (Option.bind_some _ _).symm.trans H; with_reducible exact H2_) | with_reducible exact H | (rw [hy239]; exact H) | exact H
  have Ny239 := uD hy239
  clear hy239
  have H' := uD H
  clear H
  go_enter Tryd.func43, Tryd.ntmps43
  go_wp2_with (first | ((with_reducible refine gate_dst (N := 5) rfl ?_); refine Kd.R_make (Kd.int .u8) _ 5 rfl (N := 5) rfl 37 _ _ rfl 10 rfl rfl Tryd.underlying37 (.int .u8 0) 1 info5 rfl (by decide) (by omega) 0 (ok := fun _ => True) (okp := fun _ => True) rfl (fun _ hk => hk) trivial (by omega) (by omega) (Below.refl _ _) (Nat.le_refl _) ?_; intro v240 w3 ho4 hb hg_ hnew_; clear hg_ hnew_; (first | rw [← Ny239.out] at ho4 | (simp only [Int.reduceToNat] at ho4; rw [← Ny239.out] at ho4)); have HO241 := uD (Kd.R_lower ho4 (uN (pb HB))); replace HB := uD (uO (pb HB) hb); clear hb ho4))
  go_loopg [0, 4] k (fun kq v0 v4 w' => ∃ (x0_1 : Int) (x3_1 : List Int) (x4_1 : Int), v0 = .int .i64 x0_1 ∧ v4 = .int .i64 x4_1 ∧ Aside0 (spec_l01Ten.l0 kq x0_1 x3_1 x4_1 = some r) ∧ Aside0 (kq ≤ k) ∧ Aside0 (Kd.R (Kd.int .u8) 5 w' w.heap.size (fun _ => True) v240 x3_1) ∧ Aside0 (Below w.heap.size w w'))
  case atStart => exact ⟨(a0), (y239), (9), (by first | rfl | (simp; done) | (simp [*]; done)), (by first | rfl | (simp; done) | (simp [*]; done)), H', ⟨Nat.le_refl _⟩, ⟨by (with_reducible repeat (first | apply uU | apply uS | apply uT)); exact HO241.out⟩, ⟨pb HB⟩⟩
  case round =>
   clear H'
   try clear c2
   try clear c2b0
   try clear c2b1
   try clear p2
   try clear c4
   obtain ⟨x0_1, x3_1, x4_1, rfl, rfl, HA, HK1, HO_3, HB⟩ := hrel
   cases gk with
   | zero => exact absurd HA.out (by simp [spec_l01Ten.l0])
   | succ k1 =>
    have H := HA.out
    clear HA
    simp only [spec_l01Ten.l0] at H
    by_cases c5 : x4_1 ≥ 0
    ·rw [if_pos c5] at H
     have c5b0 : decide (0 ≤ x4_1) = true := decide_eq_true c5
     clear c5
     by_cases c6 : 0 ≤ x4_1
     ·rw [if_pos c6] at H
      have c6b0 : decide (0 ≤ x4_1) = true := decide_eq_true c6
      clear c6
      (try simp [c6b0] at c5b0)
      by_cases c7 : x4_1 < (x3_1.length : Int)
      ·rw [if_pos c7] at H
       have c7b0 : decide (x4_1 < (x3_1.length : Int)) = true := decide_eq_true c7
       clear c7
       obtain ⟨y242, hy242⟩ : ∃ y_ : List Int, y_ = (x3_1.set (x4_1 : Int).toNat ((wrap64 (48 + (Int.tmod x0_1 10))) % 256)) := ⟨_, rfl⟩
       replace H : (spec_l01Ten.l0 k1 (wrap64 (Int.tdiv x0_1 10)) y242 (wrap64 (x4_1 - 1))) = some r := by first | (rw [hy242]; with_reducible exact H) | (have H2_ := (Option.bind_some _ _).symm.trans H; rw [hy242]; with_reducible exact H2_) | (have H2_ := (Option.bind_some _ _).symm.trans H; with_reducible exact H2_) | with_reducible exact H | (rw [hy242]; exact H) | exact H
       have Ny242 := uD hy242
       clear hy242
       have H' := uD H
       clear H
       have p8 : 0 ≤ (x4_1 : Int) := of_decide_eq_true (by first | (with_reducible assumption) | assumption)
       have q8 : (x4_1 : Int) < ((x3_1.length : Int) : Int) := of_decide_eq_true (by first | (with_reducible assumption) | assumption)
       obtain ⟨go8, co8, eo8, gb8, gl8, cl8, HG8⟩ := Kd.R_form HO_3.out (by omega)
       (first | cases eo8 | (injection eo8 with ea_ en_ ec_; (first | subst ea_ | (injection ea_ with ea_; subst ea_)); subst ec_; clear en_))
       have GB8 := uD gb8
       have GG8 := uD HG8
       clear gb8 gl8 HG8
       obtain ⟨hx8_0, hf8_0⟩ := Kd.R_celln 0 HO_3.out (x4_1 : Int) p8 q8
       replace p8 := eq_true p8
       replace q8 := eq_true q8
       have HP9 := Kd.R_putg HO_3.out (x4_1 : Int) ((wrap64 (48 + (Int.tmod x0_1 10))) % 256)
       go_wp2_with (first | ((with_reducible refine gate_store (t := 5) (p := 16) rfl ?_); refine store_event (t := 5) (p := 16) (v := ?vo_w10) (w1 := (wr.setCell ⟨go8, (x4_1 : Int).toNat, none⟩ (.int .u8 ((wrap64 (48 + (Int.tmod x0_1 10))) % 256)))) ?hg ?ho ?hn ?hr ?_; (case ho => rfl); (case hg => rfl); (case hn => rfl); (case hr => first | (go_simp; done) | (go_simp; rfl)); intro w10 hw; have hg : wr.grownBy w10 (some go8) := (by rw [hw]; exact HP9.2); have hp_ : Kd.R (Kd.int .u8) 5 w10 w.heap.size (fun _ => True) (.slice (some ⟨go8, 0, none⟩) x3_1.length co8) y242 := (by rw [hw, Ny242.out]; exact HP9.1); clear HP9; replace HO_3 := uD (hp_); replace HB := uD ((by rw [hw]; exact uM (HB.out) GB8.out : Below w.heap.size w w10)); clear hg hw hp_))
       go_roundg k1
       case measure => have := HK1.out; omega
       case rel => exact ⟨(wrap64 (Int.tdiv x0_1 10)), (y242), (wrap64 (x4_1 - 1)), (by first | rfl | (simp; done) | (simp [*]; done)), (by first | rfl | (simp; done) | (simp [*]; done)), H', ⟨by have := HK1.out; omega⟩, ⟨by (with_reducible repeat (first | apply uU | apply uS | apply uT)); exact HO_3.out⟩, ⟨pb HB⟩⟩
      ·rw [if_neg c7] at H
       exact absurd H (by simp)
     ·rw [if_neg c6] at H
      exact absurd H (by simp)
    ·rw [if_neg c5] at H
     have c5b0 : decide (0 ≤ x4_1) = false := decide_eq_false c5
     clear c5
     obtain rfl := Option.some.inj H
     have hcv11 := own_string (P := Tryd.prog) Tryd.underlying37 Tryd.underlying5 Tryd.underlying9 (Kd.own_of_R HO_3.out)
     go_wp2
     go_ret
     exact ⟨by first | rfl | (simp [errW_none, errW_some] <;> rfl) | (simp [*, errW_none, errW_some] <;> rfl), pb HB⟩
 ·rw [if_neg c2] at H
  exact absurd H (by simp)

end Go.Proofs.YtnkaimdcdedekaaDoor.PFnNearTags
