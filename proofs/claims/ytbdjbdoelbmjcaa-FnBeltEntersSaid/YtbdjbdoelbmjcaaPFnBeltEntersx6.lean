-- Written by a program of this session (wip/myprint.py: the kit's print with changes): not by print.sh itself.
import Derived.Test.YtbdjbdoelbmjcaaPFnBeltEntersx0
import Derived.Test.YtbdjbdoelbmjcaaPFnBeltEntersx3
import Derived.Test.YtbdjbdoelbmjcaaPFnBeltEntersx4
import Derived.Test.YtbdjbdoelbmjcaaPFnBeltEntersx5
namespace Go.Proofs.Ytbdjbdoelbmjcaa.PFnBeltEnters
open Go.RowKit Go.Proofs.YtbdjbdoelbmjcaaW.PrintWords Go.Proofs.YtbdjbdoelbmjcaaW.PrintLast Go.Proofs.YtbdjbdoelbmjcaaW.PrintMore
open Go renaming Act.put → uc
open Go.Proofs.YtbdjbdoelbmjcaaW.PrintLast renaming i64_w → uZ, i32_w → ua
open Go.Proofs.YtbdjbdoelbmjcaaW.PrintWords renaming Aside0.mk → uD, pw_below_drewN → uE, blk_cell → uF, blk_alloc → uG, blk_drewN → uH, blk_drew → uJ, below_drew1 → uK, below_alloc → uL, below_set → uM, below_size → uN, below_step → uO, blk_put → uP, Kd.R_drewN → uS, Kd.R_drew → uT, Kd.R_alloc → uU, Kd.R_far → uV, Kd.R_types → uW, Kd.R_mono → uX
open List renaming setIfInBounds_toArray → uA, set_cons_zero → uB, set_cons_succ → uC
open Bool renaming true → T, false → F
attribute [local go_sem] max2_int min2_int max_two min_two max_three min_three max_four min_four   -- for this text's walks alone
set_option linter.unusedVariables false
set_option linter.unusedSimpArgs false

/-! ### spec_Backlog: function 24 -/
def spec_Backlog.l0 : Nat → Int → Int → Int → Int → Bool → List (S53) → Int → Int → Bool → List (S53) → Option (Int)
 | 0, _, _, _, _, _, _, _, _, _, _ => none
 | k + 1, x4, x5, x148000, x148001, x148002, x148003, x156000, x156001, x156002, x156003 => if x5 < (x148003.length : Int) then (if 0 ≤ x5 then (if x5 < (x156003.length : Int) then (if ((rd_T53 x156003 x5).f1) = ((rd_T53 x148003 x5).f1) then (spec_Backlog.l0 k (wrap64 (x4 + 1)) (wrap64 (x5 + 1)) x148000 x148001 x148002 x148003 x156000 x156001 x156002 x156003) else (spec_Backlog.l0 k x4 (wrap64 (x5 + 1)) x148000 x148001 x148002 x148003 x156000 x156001 x156002 x156003)) else (none)) else (none)) else (some x4)
def spec_Backlog.f (k : Nat) (a0_0 : Int) (a0_1 : Int) (a0_2 : Bool) (l0_3 : List (S53)) : Option (Int) := (spec_BeltOk.f k a0_0 a0_1 a0_2 l0_3).bind fun t148 => (if t148 = true then ((spec_l02Step.f k a0_0 a0_1 a0_2 l0_3).bind fun bt149 => (spec_Backlog.l0 k 0 0 a0_0 a0_1 a0_2 l0_3 bt149.1 bt149.2.1 bt149.2.2.1 bt149.2.2.2)) else (some (-1)))
theorem spec_Backlog.mono_l : ∀ k, (∀ y0 y1 y2 y3 y4 y5 y6 y7 y8 y9, LeO (spec_Backlog.l0 k y0 y1 y2 y3 y4 y5 y6 y7 y8 y9) (spec_Backlog.l0 (k + 1) y0 y1 y2 y3 y4 y5 y6 y7 y8 y9))
 | 0 => fun _ _ _ _ _ _ _ _ _ _ r h => by simp [spec_Backlog.l0] at h
 | k + 1 => by
  have ih0 := spec_Backlog.mono_l k
  ·intro y0 y1 y2 y3 y4 y5 y6 y7 y8 y9
   unfold spec_Backlog.l0
   repeat' first
   | (with_reducible exact ih0 _ _ _ _ _ _ _ _ _ _)
   | (with_reducible exact spec_BeltOk.mono _ _ _ _ _)
   | (with_reducible exact spec_l02Step.mono _ _ _ _ _)
   | (with_reducible exact LeO.refl _)
   | (with_reducible exact LeO.none _)
   | (with_reducible refine LeO.ite ?_ ?_)
   | (with_reducible refine LeO.bind ?_ (fun _ => ?_))
   | exact ih0 _ _ _ _ _ _ _ _ _ _
   | exact spec_BeltOk.mono _ _ _ _ _
   | exact spec_l02Step.mono _ _ _ _ _
   | exact LeO.none _
   | refine LeO.ite ?_ ?_
   | refine LeO.bind ?_ (fun _ => ?_)
theorem spec_Backlog.mono : ∀ a0 a1 a2 a3 k, LeO (spec_Backlog.f k a0 a1 a2 a3) (spec_Backlog.f (k + 1) a0 a1 a2 a3) := by
 intro a0 a1 a2 a3 k
 have ih0 := spec_Backlog.mono_l k
 unfold spec_Backlog.f
 repeat' first
   | (with_reducible exact ih0 _ _ _ _ _ _ _ _ _ _)
   | (with_reducible exact spec_BeltOk.mono _ _ _ _ _)
   | (with_reducible exact spec_l02Step.mono _ _ _ _ _)
   | (with_reducible exact LeO.refl _)
   | (with_reducible exact LeO.none _)
   | (with_reducible refine LeO.ite ?_ ?_)
   | (with_reducible refine LeO.bind ?_ (fun _ => ?_))
   | exact ih0 _ _ _ _ _ _ _ _ _ _
   | exact spec_BeltOk.mono _ _ _ _ _
   | exact spec_l02Step.mono _ _ _ _ _
   | exact LeO.none _
   | refine LeO.ite ?_ ?_
   | refine LeO.bind ?_ (fun _ => ?_)
set_option maxHeartbeats 8000000 in
set_option maxRecDepth 100000 in
theorem spec_Backlog.calls (k : Nat) (a0_0 : Int) (a0_1 : Int) (a0_2 : Bool) (A0_3 : Option Addr) (c0_3 : Nat) (l0_3 : List (S53)) (r : Int) (w : World) (hr0_3 : Kd.C k53 w A0_3 l0_3.length l0_3) (hc0_3 : l0_3.length ≤ c0_3) (h : spec_Backlog.f k a0_0 a0_1 a0_2 l0_3 = some r) :
  Calls Try.prog 24 #[.agg #[.int .i64 a0_0, .int .i64 a0_1, .bool a0_2, .slice A0_3 l0_3.length c0_3]] w fun e w' => e = .returned (.int .i64 r) ∧ Below w.heap.size w w' := by
 have hu29 := Try.underlying29
 have HR0_3 := uD hr0_3
 have HC0_3 := uD hc0_3
 clear hr0_3 hc0_3
 have HB := uD (Below.refl w.heap.size w)
 have H : ((spec_BeltOk.f k a0_0 a0_1 a0_2 l0_3).bind fun t148 => (if t148 = true then ((spec_l02Step.f k a0_0 a0_1 a0_2 l0_3).bind fun bt149 => (spec_Backlog.l0 k 0 0 a0_0 a0_1 a0_2 l0_3 bt149.1 bt149.2.1 bt149.2.2.1 bt149.2.2.2)) else (some (-1)))) = some r := h
 clear h
 replace H := Option.bind_eq_some_iff.mp H
 obtain ⟨t148, A20, H⟩ := H
 replace H : (if t148 = true then ((spec_l02Step.f k a0_0 a0_1 a0_2 l0_3).bind fun bt149 => (spec_Backlog.l0 k 0 0 a0_0 a0_1 a0_2 l0_3 bt149.1 bt149.2.1 bt149.2.2.1 bt149.2.2.2)) else (some (-1))) = some r := H
 have A2 := uD A20
 clear A20
 by_cases c3 : t148 = true
 ·subst c3
  have H1 : ((spec_l02Step.f k a0_0 a0_1 a0_2 l0_3).bind fun bt149 => (spec_Backlog.l0 k 0 0 a0_0 a0_1 a0_2 l0_3 bt149.1 bt149.2.1 bt149.2.2.1 bt149.2.2.2)) = some r := by rw [if_pos rfl] at H; first | done | exact H
  clear H
  have H := H1
  clear H1
  replace H := Option.bind_eq_some_iff.mp H
  obtain ⟨⟨t149, t150, t151, t152⟩, A40, H⟩ := H
  replace H : (spec_Backlog.l0 k 0 0 a0_0 a0_1 a0_2 l0_3 t149 t150 t151 t152) = some r := H
  have A4 := uD A40
  clear A40
  have H' := uD H
  clear H
  go_enter Try.func24, Try.ntmps24
  go_wp2_with (first | ((with_reducible refine gate_dst (N := 1) rfl ?_); refine bx 1 #[.int .i64 a0_0, .int .i64 a0_1, .bool a0_2, .slice A0_3 l0_3.length c0_3] 29 ?_; intro gb147 hg w5 hbox hb; have BK147 := uD (hbox); have GW147 := uD ((by rw [hg]; exact (uN (pb HB)) : w.heap.size ≤ gb147)); have GE147 := uD ((by rw [hg]; exact (uN (pb HB)) : w.heap.size ≤ gb147)); replace HB := uD (uO (pb HB) hb); clear hb hbox hg; obtain ⟨hcz6_0, hcz6_1, hcz6_2, hcz6_3, hfz6_0, hfz6_1, hfz6_2, hfz6_3⟩ := cz4 BK147) | (go_at_call 16; (with_reducible refine (spec_BeltOk.calls k a0_0 a0_1 a0_2 _ _ l0_3 true _ ?side1 ?side2 A2.out).mono ?_); (case side1 => exact pc (Kd.C_below HR0_3.out HB.out)); (case side2 => exact HC0_3.out); rintro e w7 ⟨rfl, hb⟩; replace BK147 := uD (blk_below (pk BK147) hb); replace HB := uD (uO (pb HB) hb); (try clear hb); (try clear hb2); (try clear hk); (try clear hi); obtain ⟨hcz8_0, hcz8_1, hcz8_2, hcz8_3, hfz8_0, hfz8_1, hfz8_2, hfz8_3⟩ := cz4 BK147) | (go_at_call 52; (with_reducible refine (spec_l02Step.calls k a0_0 a0_1 a0_2 _ _ l0_3 t149 t150 t151 t152 _ ?side1 ?side2 A4.out).mono ?_); (case side1 => exact pc (Kd.C_below HR0_3.out HB.out)); (case side2 => exact HC0_3.out); rintro e w9 ⟨v153, rfl, ho0, hb⟩; have HO154 := uD (Kd.R_lower ho0 (uN (pb HB))); replace BK147 := uD (blk_below (pk BK147) hb); replace HB := uD (uO (pb HB) hb); (try clear hb); (try clear hb2); (try clear hk); (try clear hi); (try clear ho0)) | ((with_reducible refine gate_dst (N := 3) rfl ?_); refine bx 3 #[.int .i64 0, .int .i64 0, .bool false, .slice none 0 0] 29 ?_; intro gb155 hg w10 hbox hb; replace HO154 := uD (Kd.R_below (pr HO154) hb); have BK155 := uD (hbox); have GW155 := uD ((by rw [hg]; exact (uN (pb HB)) : w.heap.size ≤ gb155)); have GE155 := uD ((by rw [hg]; exact (uN (pb HB)) : w.heap.size ≤ gb155)); replace HB := uD (uO (pb HB) hb); have NB147_155 := uD ((by rw [hg]; exact Nat.ne_of_lt (blk_lt (pk BK147)) : gb147 ≠ gb155)); have NB155_147 := uD ((by rw [hg]; exact Nat.ne_of_gt (blk_lt (pk BK147)) : gb155 ≠ gb147)); replace BK147 := uD (blk_below (pk BK147) hb); clear hb hbox hg; have hnb11 := NB155_147.out; have hnc11 := NB147_155.out; obtain ⟨hcz12_0, hcz12_1, hcz12_2, hcz12_3, hfz12_0, hfz12_1, hfz12_2, hfz12_3⟩ := cz4 BK155; obtain ⟨Ao13, co13, eo13⟩ := Kd.R_slice HO154.out; subst eo13))
  repeat (go_quiet (first | ((with_reducible refine gate_dst (N := 1) rfl ?_); refine bx 1 #[.int .i64 a0_0, .int .i64 a0_1, .bool a0_2, .slice A0_3 l0_3.length c0_3] 29 ?_; intro gb147 hg w5 hbox hb; have BK147 := uD (hbox); have GW147 := uD ((by rw [hg]; exact (uN (pb HB)) : w.heap.size ≤ gb147)); have GE147 := uD ((by rw [hg]; exact (uN (pb HB)) : w.heap.size ≤ gb147)); replace HB := uD (uO (pb HB) hb); clear hb hbox hg; obtain ⟨hcz6_0, hcz6_1, hcz6_2, hcz6_3, hfz6_0, hfz6_1, hfz6_2, hfz6_3⟩ := cz4 BK147) | (go_at_call 16; (with_reducible refine (spec_BeltOk.calls k a0_0 a0_1 a0_2 _ _ l0_3 true _ ?side1 ?side2 A2.out).mono ?_); (case side1 => exact pc (Kd.C_below HR0_3.out HB.out)); (case side2 => exact HC0_3.out); rintro e w7 ⟨rfl, hb⟩; replace BK147 := uD (blk_below (pk BK147) hb); replace HB := uD (uO (pb HB) hb); (try clear hb); (try clear hb2); (try clear hk); (try clear hi); obtain ⟨hcz8_0, hcz8_1, hcz8_2, hcz8_3, hfz8_0, hfz8_1, hfz8_2, hfz8_3⟩ := cz4 BK147) | (go_at_call 52; (with_reducible refine (spec_l02Step.calls k a0_0 a0_1 a0_2 _ _ l0_3 t149 t150 t151 t152 _ ?side1 ?side2 A4.out).mono ?_); (case side1 => exact pc (Kd.C_below HR0_3.out HB.out)); (case side2 => exact HC0_3.out); rintro e w9 ⟨v153, rfl, ho0, hb⟩; have HO154 := uD (Kd.R_lower ho0 (uN (pb HB))); replace BK147 := uD (blk_below (pk BK147) hb); replace HB := uD (uO (pb HB) hb); (try clear hb); (try clear hb2); (try clear hk); (try clear hi); (try clear ho0)) | ((with_reducible refine gate_dst (N := 3) rfl ?_); refine bx 3 #[.int .i64 0, .int .i64 0, .bool false, .slice none 0 0] 29 ?_; intro gb155 hg w10 hbox hb; replace HO154 := uD (Kd.R_below (pr HO154) hb); have BK155 := uD (hbox); have GW155 := uD ((by rw [hg]; exact (uN (pb HB)) : w.heap.size ≤ gb155)); have GE155 := uD ((by rw [hg]; exact (uN (pb HB)) : w.heap.size ≤ gb155)); replace HB := uD (uO (pb HB) hb); have NB147_155 := uD ((by rw [hg]; exact Nat.ne_of_lt (blk_lt (pk BK147)) : gb147 ≠ gb155)); have NB155_147 := uD ((by rw [hg]; exact Nat.ne_of_gt (blk_lt (pk BK147)) : gb155 ≠ gb147)); replace BK147 := uD (blk_below (pk BK147) hb); clear hb hbox hg; have hnb11 := NB155_147.out; have hnc11 := NB147_155.out; obtain ⟨hcz12_0, hcz12_1, hcz12_2, hcz12_3, hfz12_0, hfz12_1, hfz12_2, hfz12_3⟩ := cz4 BK155; obtain ⟨Ao13, co13, eo13⟩ := Kd.R_slice HO154.out; subst eo13)); try go_wp2_with (first | ((with_reducible refine gate_dst (N := 1) rfl ?_); refine bx 1 #[.int .i64 a0_0, .int .i64 a0_1, .bool a0_2, .slice A0_3 l0_3.length c0_3] 29 ?_; intro gb147 hg w5 hbox hb; have BK147 := uD (hbox); have GW147 := uD ((by rw [hg]; exact (uN (pb HB)) : w.heap.size ≤ gb147)); have GE147 := uD ((by rw [hg]; exact (uN (pb HB)) : w.heap.size ≤ gb147)); replace HB := uD (uO (pb HB) hb); clear hb hbox hg; obtain ⟨hcz6_0, hcz6_1, hcz6_2, hcz6_3, hfz6_0, hfz6_1, hfz6_2, hfz6_3⟩ := cz4 BK147) | (go_at_call 16; (with_reducible refine (spec_BeltOk.calls k a0_0 a0_1 a0_2 _ _ l0_3 true _ ?side1 ?side2 A2.out).mono ?_); (case side1 => exact pc (Kd.C_below HR0_3.out HB.out)); (case side2 => exact HC0_3.out); rintro e w7 ⟨rfl, hb⟩; replace BK147 := uD (blk_below (pk BK147) hb); replace HB := uD (uO (pb HB) hb); (try clear hb); (try clear hb2); (try clear hk); (try clear hi); obtain ⟨hcz8_0, hcz8_1, hcz8_2, hcz8_3, hfz8_0, hfz8_1, hfz8_2, hfz8_3⟩ := cz4 BK147) | (go_at_call 52; (with_reducible refine (spec_l02Step.calls k a0_0 a0_1 a0_2 _ _ l0_3 t149 t150 t151 t152 _ ?side1 ?side2 A4.out).mono ?_); (case side1 => exact pc (Kd.C_below HR0_3.out HB.out)); (case side2 => exact HC0_3.out); rintro e w9 ⟨v153, rfl, ho0, hb⟩; have HO154 := uD (Kd.R_lower ho0 (uN (pb HB))); replace BK147 := uD (blk_below (pk BK147) hb); replace HB := uD (uO (pb HB) hb); (try clear hb); (try clear hb2); (try clear hk); (try clear hi); (try clear ho0)) | ((with_reducible refine gate_dst (N := 3) rfl ?_); refine bx 3 #[.int .i64 0, .int .i64 0, .bool false, .slice none 0 0] 29 ?_; intro gb155 hg w10 hbox hb; replace HO154 := uD (Kd.R_below (pr HO154) hb); have BK155 := uD (hbox); have GW155 := uD ((by rw [hg]; exact (uN (pb HB)) : w.heap.size ≤ gb155)); have GE155 := uD ((by rw [hg]; exact (uN (pb HB)) : w.heap.size ≤ gb155)); replace HB := uD (uO (pb HB) hb); have NB147_155 := uD ((by rw [hg]; exact Nat.ne_of_lt (blk_lt (pk BK147)) : gb147 ≠ gb155)); have NB155_147 := uD ((by rw [hg]; exact Nat.ne_of_gt (blk_lt (pk BK147)) : gb155 ≠ gb147)); replace BK147 := uD (blk_below (pk BK147) hb); clear hb hbox hg; have hnb11 := NB155_147.out; have hnc11 := NB147_155.out; obtain ⟨hcz12_0, hcz12_1, hcz12_2, hcz12_3, hfz12_0, hfz12_1, hfz12_2, hfz12_3⟩ := cz4 BK155; obtain ⟨Ao13, co13, eo13⟩ := Kd.R_slice HO154.out; subst eo13)))
  go_loopg [4, 5] k (fun kq v4 v5 w' => ∃ (x4_1 : Int) (x5_1 : Int), v4 = .int .i64 x4_1 ∧ v5 = .int .i64 x5_1 ∧ Aside0 (spec_Backlog.l0 kq x4_1 x5_1 a0_0 a0_1 a0_2 l0_3 t149 t150 t151 t152 = some r) ∧ Aside0 (kq ≤ k) ∧ Aside0 (Kd.R k53 53 w' w.heap.size (fun _ => True) (.slice Ao13 t152.length co13) t152) ∧ Aside0 (w'.heap[gb147]? = some (.cells #[.int .i64 a0_0, .int .i64 a0_1, .bool a0_2, (.slice A0_3 l0_3.length c0_3)] 29 (0, 0))) ∧ Aside0 (w'.heap[gb155]? = some (.cells #[.int .i64 t149, .int .i64 t150, .bool t151, (.slice Ao13 t152.length co13)] 29 (0, 0))) ∧ Aside0 (Below w.heap.size w w'))
  case atStart => exact ⟨(0), (0), (by first | rfl | (simp; done) | (simp [*]; done)), (by first | rfl | (simp; done) | (simp [*]; done)), H', ⟨Nat.le_refl _⟩, ⟨by (with_reducible repeat (first | apply uU | apply uS | apply uT)); exact uX (uV (p := ⟨gb155, 3, none⟩) (uV (p := ⟨gb155, 2, none⟩) (uV (p := ⟨gb155, 1, none⟩) (uV (p := ⟨gb155, 0, none⟩) (uW HO154.out BK155.out (by decide)) (fun _ hk => hk.2) (.int .i64 t149)) (fun _ hk => hk.2) (.int .i64 t150)) (fun _ hk => hk.2) (.bool t151)) (fun _ hk => hk.2) (.slice Ao13 t152.length co13)) (fun _ hk => trivial)⟩, ⟨by exact ps BK147⟩, ⟨by (with_reducible repeat first|apply uH|apply uJ|apply uG); refine uP (cs := #[.int .i64 t149, .int .i64 t150, .bool t151, .slice none 0 0]) ?_ 3 _ rfl; (with_reducible repeat first|apply uH|apply uJ|apply uG); refine uP (cs := #[.int .i64 t149, .int .i64 t150, .bool false, .slice none 0 0]) ?_ 2 _ rfl; (with_reducible repeat first|apply uH|apply uJ|apply uG); refine uP (cs := #[.int .i64 t149, .int .i64 0, .bool false, .slice none 0 0]) ?_ 1 _ rfl; (with_reducible repeat first|apply uH|apply uJ|apply uG); refine uP (cs := #[.int .i64 0, .int .i64 0, .bool false, .slice none 0 0]) ?_ 0 _ rfl; (with_reducible repeat first|apply uH|apply uJ|apply uG); exact BK155.out⟩, ⟨pb HB⟩⟩
  case round =>
   clear H'
   try clear c1
   try clear c2
   try clear p2
   try clear c3
   try clear c11
   try clear hcz12_0
   try clear hcz12_1
   try clear hcz12_2
   try clear hcz12_3
   try clear hcz6_0
   try clear hcz6_1
   try clear hcz6_2
   try clear hcz6_3
   try clear hcz8_0
   try clear hcz8_1
   try clear hcz8_2
   try clear hcz8_3
   try clear hfz12_0
   try clear hfz12_1
   try clear hfz12_2
   try clear hfz12_3
   try clear hfz6_0
   try clear hfz6_1
   try clear hfz6_2
   try clear hfz6_3
   try clear hfz8_0
   try clear hfz8_1
   try clear hfz8_2
   try clear hfz8_3
   obtain ⟨x4_1, x5_1, rfl, rfl, HA, HK1, HO_156003, BK147, BK155, HB⟩ := hrel
   cases gk with
   | zero => exact absurd HA.out (by simp [spec_Backlog.l0])
   | succ k1 =>
    have H := HA.out
    clear HA
    simp only [spec_Backlog.l0] at H
    by_cases c14 : x5_1 < (l0_3.length : Int)
    ·rw [if_pos c14] at H
     have c14b0 : decide (x5_1 < (l0_3.length : Int)) = true := decide_eq_true c14
     clear c14
     by_cases c15 : 0 ≤ x5_1
     ·rw [if_pos c15] at H
      have c15b0 : decide (0 ≤ x5_1) = true := decide_eq_true c15
      clear c15
      by_cases c16 : x5_1 < (t152.length : Int)
      ·rw [if_pos c16] at H
       have c16b0 : decide (x5_1 < (t152.length : Int)) = true := decide_eq_true c16
       clear c16
       by_cases c17 : ((rd_T53 t152 x5_1).f1) = ((rd_T53 l0_3 x5_1).f1)
       ·rw [if_pos c17] at H
        have c17b0 : (((rd_T53 t152 x5_1).f1) == ((rd_T53 l0_3 x5_1).f1)) = true := beq_iff_eq.mpr c17
        have c17b1 : (((rd_T53 t152 x5_1).f1) != ((rd_T53 l0_3 x5_1).f1)) = false := bne_eq_false_iff_eq.mpr c17
        clear c17
        have H' := uD H
        clear H
        have hnb18 := NB147_155.out
        have hnc18 := NB155_147.out
        obtain ⟨hcz19_0, hcz19_1, hcz19_2, hcz19_3, hfz19_0, hfz19_1, hfz19_2, hfz19_3⟩ := cz4 BK147
        obtain ⟨hcz20_0, hcz20_1, hcz20_2, hcz20_3, hfz20_0, hfz20_1, hfz20_2, hfz20_3⟩ := cz4 BK155
        have p156 : 0 ≤ (x5_1 : Int) := of_decide_eq_true (by first | (with_reducible assumption) | assumption)
        have q156 : x5_1 < (t152.length : Int) := of_decide_eq_true (by first | (with_reducible assumption) | assumption)
        obtain ⟨ad156, e156, hx156_0, hx156_1, hx156_2⟩ := at_T53 (Kd.R_reads' HO_156003.out).2.2 x5_1 p156 q156
        cases e156
        replace p156 := eq_true p156
        replace q156 := eq_true q156
        have p157 : 0 ≤ (x5_1 : Int) := of_decide_eq_true (by first | (with_reducible assumption) | assumption)
        have q157 : x5_1 < (l0_3.length : Int) := of_decide_eq_true (by first | (with_reducible assumption) | assumption)
        obtain ⟨ad157, e157, hx157_0, hx157_1, hx157_2⟩ := at_T53 HR0_3.out x5_1 p157 q157
        cases e157
        replace hx157_0 := (HB.out.cell (World.block_lt_of_cell? w _ hx157_0)).trans hx157_0
        replace hx157_1 := (HB.out.cell (World.block_lt_of_cell? w _ hx157_1)).trans hx157_1
        replace hx157_2 := (HB.out.cell (World.block_lt_of_cell? w _ hx157_2)).trans hx157_2
        replace p157 := eq_true p157
        replace q157 := eq_true q157
        go_wp2
        repeat (go_quiet (fail); try go_wp2)
        go_roundg k1
        case measure => have := HK1.out; omega
        case rel => exact ⟨(wrap64 (x4_1 + 1)), (wrap64 (x5_1 + 1)), (by first | rfl | (simp; done) | (simp [*]; done)), (by first | rfl | (simp; done) | (simp [*]; done)), H', ⟨by have := HK1.out; omega⟩, ⟨by (with_reducible repeat (first | apply uU | apply uS | apply uT)); exact HO_156003.out⟩, ⟨by (with_reducible repeat first|apply uH|apply uJ|apply uG); exact BK147.out⟩, ⟨by (with_reducible repeat first|apply uH|apply uJ|apply uG); exact BK155.out⟩, ⟨pb HB⟩⟩
       ·rw [if_neg c17] at H
        have c17b0 : (((rd_T53 t152 x5_1).f1) == ((rd_T53 l0_3 x5_1).f1)) = false := beq_eq_false_iff_ne.mpr c17
        have c17b1 : (((rd_T53 t152 x5_1).f1) != ((rd_T53 l0_3 x5_1).f1)) = true := bne_iff_ne.mpr c17
        have H' := uD H
        clear H
        have hnb21 := NB147_155.out
        have hnc21 := NB155_147.out
        obtain ⟨hcz22_0, hcz22_1, hcz22_2, hcz22_3, hfz22_0, hfz22_1, hfz22_2, hfz22_3⟩ := cz4 BK147
        obtain ⟨hcz23_0, hcz23_1, hcz23_2, hcz23_3, hfz23_0, hfz23_1, hfz23_2, hfz23_3⟩ := cz4 BK155
        have p156 : 0 ≤ (x5_1 : Int) := of_decide_eq_true (by first | (with_reducible assumption) | assumption)
        have q156 : x5_1 < (t152.length : Int) := of_decide_eq_true (by first | (with_reducible assumption) | assumption)
        obtain ⟨ad156, e156, hx156_0, hx156_1, hx156_2⟩ := at_T53 (Kd.R_reads' HO_156003.out).2.2 x5_1 p156 q156
        cases e156
        replace p156 := eq_true p156
        replace q156 := eq_true q156
        have p157 : 0 ≤ (x5_1 : Int) := of_decide_eq_true (by first | (with_reducible assumption) | assumption)
        have q157 : x5_1 < (l0_3.length : Int) := of_decide_eq_true (by first | (with_reducible assumption) | assumption)
        obtain ⟨ad157, e157, hx157_0, hx157_1, hx157_2⟩ := at_T53 HR0_3.out x5_1 p157 q157
        cases e157
        replace hx157_0 := (HB.out.cell (World.block_lt_of_cell? w _ hx157_0)).trans hx157_0
        replace hx157_1 := (HB.out.cell (World.block_lt_of_cell? w _ hx157_1)).trans hx157_1
        replace hx157_2 := (HB.out.cell (World.block_lt_of_cell? w _ hx157_2)).trans hx157_2
        replace p157 := eq_true p157
        replace q157 := eq_true q157
        go_wp2
        repeat (go_quiet (fail); try go_wp2)
        go_roundg k1
        case measure => have := HK1.out; omega
        case rel => exact ⟨(x4_1), (wrap64 (x5_1 + 1)), (by first | rfl | (simp; done) | (simp [*]; done)), (by first | rfl | (simp; done) | (simp [*]; done)), H', ⟨by have := HK1.out; omega⟩, ⟨by (with_reducible repeat (first | apply uU | apply uS | apply uT)); exact HO_156003.out⟩, ⟨by (with_reducible repeat first|apply uH|apply uJ|apply uG); exact BK147.out⟩, ⟨by (with_reducible repeat first|apply uH|apply uJ|apply uG); exact BK155.out⟩, ⟨pb HB⟩⟩
      ·rw [if_neg c16] at H
       exact absurd H (by simp)
     ·rw [if_neg c15] at H
      exact absurd H (by simp)
    ·rw [if_neg c14] at H
     have c14b0 : decide (x5_1 < (l0_3.length : Int)) = false := decide_eq_false c14
     clear c14
     obtain rfl := Option.some.inj H
     have hnb24 := NB147_155.out
     have hnc24 := NB155_147.out
     obtain ⟨hcz25_0, hcz25_1, hcz25_2, hcz25_3, hfz25_0, hfz25_1, hfz25_2, hfz25_3⟩ := cz4 BK147
     go_wp2
     repeat (go_quiet (fail); try go_wp2)
     go_ret
     exact ⟨by first | rfl | (simp [errW_none, errW_some] <;> rfl) | (simp [*, errW_none, errW_some] <;> rfl), pb HB⟩
 ·replace c3 := Bool.eq_false_iff.mpr c3
  subst c3
  have H1 : (some (-1)) = some r := by rw [if_neg (show ¬ (false = true) by decide)] at H; first | done | exact H
  clear H
  have H := H1
  clear H1
  obtain rfl := Option.some.inj H
  go_enter Try.func24, Try.ntmps24
  go_wp2_with (first | ((with_reducible refine gate_dst (N := 1) rfl ?_); refine bx 1 #[.int .i64 a0_0, .int .i64 a0_1, .bool a0_2, .slice A0_3 l0_3.length c0_3] 29 ?_; intro gb147 hg w26 hbox hb; have BK147 := uD (hbox); have GW147 := uD ((by rw [hg]; exact (uN (pb HB)) : w.heap.size ≤ gb147)); have GE147 := uD ((by rw [hg]; exact (uN (pb HB)) : w.heap.size ≤ gb147)); replace HB := uD (uO (pb HB) hb); clear hb hbox hg; obtain ⟨hcz27_0, hcz27_1, hcz27_2, hcz27_3, hfz27_0, hfz27_1, hfz27_2, hfz27_3⟩ := cz4 BK147) | (go_at_call 16; (with_reducible refine (spec_BeltOk.calls k a0_0 a0_1 a0_2 _ _ l0_3 false _ ?side1 ?side2 A2.out).mono ?_); (case side1 => exact pc (Kd.C_below HR0_3.out HB.out)); (case side2 => exact HC0_3.out); rintro e w28 ⟨rfl, hb⟩; replace BK147 := uD (blk_below (pk BK147) hb); replace HB := uD (uO (pb HB) hb); (try clear hb); (try clear hb2); (try clear hk); (try clear hi)))
  repeat (go_quiet (first | ((with_reducible refine gate_dst (N := 1) rfl ?_); refine bx 1 #[.int .i64 a0_0, .int .i64 a0_1, .bool a0_2, .slice A0_3 l0_3.length c0_3] 29 ?_; intro gb147 hg w26 hbox hb; have BK147 := uD (hbox); have GW147 := uD ((by rw [hg]; exact (uN (pb HB)) : w.heap.size ≤ gb147)); have GE147 := uD ((by rw [hg]; exact (uN (pb HB)) : w.heap.size ≤ gb147)); replace HB := uD (uO (pb HB) hb); clear hb hbox hg; obtain ⟨hcz27_0, hcz27_1, hcz27_2, hcz27_3, hfz27_0, hfz27_1, hfz27_2, hfz27_3⟩ := cz4 BK147) | (go_at_call 16; (with_reducible refine (spec_BeltOk.calls k a0_0 a0_1 a0_2 _ _ l0_3 false _ ?side1 ?side2 A2.out).mono ?_); (case side1 => exact pc (Kd.C_below HR0_3.out HB.out)); (case side2 => exact HC0_3.out); rintro e w28 ⟨rfl, hb⟩; replace BK147 := uD (blk_below (pk BK147) hb); replace HB := uD (uO (pb HB) hb); (try clear hb); (try clear hb2); (try clear hk); (try clear hi))); try go_wp2_with (first | ((with_reducible refine gate_dst (N := 1) rfl ?_); refine bx 1 #[.int .i64 a0_0, .int .i64 a0_1, .bool a0_2, .slice A0_3 l0_3.length c0_3] 29 ?_; intro gb147 hg w26 hbox hb; have BK147 := uD (hbox); have GW147 := uD ((by rw [hg]; exact (uN (pb HB)) : w.heap.size ≤ gb147)); have GE147 := uD ((by rw [hg]; exact (uN (pb HB)) : w.heap.size ≤ gb147)); replace HB := uD (uO (pb HB) hb); clear hb hbox hg; obtain ⟨hcz27_0, hcz27_1, hcz27_2, hcz27_3, hfz27_0, hfz27_1, hfz27_2, hfz27_3⟩ := cz4 BK147) | (go_at_call 16; (with_reducible refine (spec_BeltOk.calls k a0_0 a0_1 a0_2 _ _ l0_3 false _ ?side1 ?side2 A2.out).mono ?_); (case side1 => exact pc (Kd.C_below HR0_3.out HB.out)); (case side2 => exact HC0_3.out); rintro e w28 ⟨rfl, hb⟩; replace BK147 := uD (blk_below (pk BK147) hb); replace HB := uD (uO (pb HB) hb); (try clear hb); (try clear hb2); (try clear hk); (try clear hi))))
  go_ret
  exact ⟨by first | rfl | (simp [errW_none, errW_some] <;> rfl) | (simp [*, errW_none, errW_some] <;> rfl), pb HB⟩

/-! ### impl_stepped: function 53 -/
def impl_stepped.l0 : Nat → Int → Int → Int → Int → Int → Int → Bool → List (S53) → Option (Int × (List (S53)))
 | 0, _, _, _, _, _, _, _, _ => none
 | k + 1, x3, x4, x11, x12, x159000, x159001, x159002, x159003 => if x12 < x11 then (if 0 ≤ x12 then (if x12 < (x159003.length : Int) then (if ((rd_T53 x159003 x12).f1) < x4 then ((some (x159003.set (x12 : Int).toNat (⟨(rd_T53 x159003 x12).f0, wrap64 (((rd_T53 x159003 x12).f1) + 1), (rd_T53 x159003 x12).f2⟩ : S53) : List (S53))).bind fun y162 => (impl_stepped.l0 k (wrap64 (x3 + 1)) (wrap64 ((wrap64 (((rd_T53 y162 x12).f1) - ((rd_T53 x159003 x12).f2))) - x159001)) x11 (wrap64 (x12 + 1)) x159000 x159001 x159002 y162)) else (impl_stepped.l0 k x3 (wrap64 ((wrap64 (((rd_T53 x159003 x12).f1) - ((rd_T53 x159003 x12).f2))) - x159001)) x11 (wrap64 (x12 + 1)) x159000 x159001 x159002 x159003)) else (none)) else (none)) else (some (x3, x159003))
def impl_stepped.f (k : Nat) (a0_0 : Int) (a0_1 : Int) (a0_2 : Bool) (l0_3 : List (S53)) : Option (Int × (List (S53))) := impl_stepped.l0 k 0 a0_0 (l0_3.length : Int) 0 a0_0 a0_1 a0_2 l0_3
theorem impl_stepped.mono_l : ∀ k, (∀ y0 y1 y2 y3 y4 y5 y6 y7, LeO (impl_stepped.l0 k y0 y1 y2 y3 y4 y5 y6 y7) (impl_stepped.l0 (k + 1) y0 y1 y2 y3 y4 y5 y6 y7))
 | 0 => fun _ _ _ _ _ _ _ _ r h => by simp [impl_stepped.l0] at h
 | k + 1 => by
  have ih0 := impl_stepped.mono_l k
  ·intro y0 y1 y2 y3 y4 y5 y6 y7
   unfold impl_stepped.l0
   repeat' first
   | (with_reducible exact ih0 _ _ _ _ _ _ _ _)
   | (with_reducible exact LeO.refl _)
   | (with_reducible exact LeO.none _)
   | (with_reducible refine LeO.ite ?_ ?_)
   | (with_reducible refine LeO.bind ?_ (fun _ => ?_))
   | exact ih0 _ _ _ _ _ _ _ _
   | exact LeO.none _
   | refine LeO.ite ?_ ?_
   | refine LeO.bind ?_ (fun _ => ?_)
theorem impl_stepped.mono : ∀ a0 a1 a2 a3 k, LeO (impl_stepped.f k a0 a1 a2 a3) (impl_stepped.f (k + 1) a0 a1 a2 a3) := by
 intro a0 a1 a2 a3 k
 have ih0 := impl_stepped.mono_l k
 unfold impl_stepped.f
 repeat' first
   | (with_reducible exact ih0 _ _ _ _ _ _ _ _)
   | (with_reducible exact LeO.refl _)
   | (with_reducible exact LeO.none _)
   | (with_reducible refine LeO.ite ?_ ?_)
   | (with_reducible refine LeO.bind ?_ (fun _ => ?_))
   | exact ih0 _ _ _ _ _ _ _ _
   | exact LeO.none _
   | refine LeO.ite ?_ ?_
   | refine LeO.bind ?_ (fun _ => ?_)
set_option maxHeartbeats 8000000 in
set_option maxRecDepth 100000 in
theorem impl_stepped.calls (k : Nat) (a0_0 : Int) (a0_1 : Int) (a0_2 : Bool) (P0_3_ : Nat → Prop) (u9000_ : Value) (l0_3 : List (S53)) (r1 : Int) (r2 : List (S53)) (w0 w : World) (hB : Below w0.heap.size w0 w) (ho0_3 : Kd.Q k53 53 w w0.heap.size P0_3_ u9000_ l0_3) (h : impl_stepped.f k a0_0 a0_1 a0_2 l0_3 = some (r1, r2)) :
  Calls Try.prog 53 #[.agg #[.int .i64 a0_0, .int .i64 a0_1, .bool a0_2, u9000_]] w fun e w' => e = .returned (.int .i64 r1) ∧ Kd.Q k53 53 w' w0.heap.size (fun k_ => (P0_3_ k_ ∨ w.heap.size ≤ k_)) u9000_ r2 ∧ Below w0.heap.size w0 w' ∧ Kept w w' (fun k_ => P0_3_ k_) := by
 have hu29 := Try.underlying29
 have hu53 := Try.underlying53
 have HO0_3 := uD (show Kd.Q k53 53 w w0.heap.size (fun k_ => (P0_3_ k_ ∨ w.heap.size ≤ k_)) u9000_ l0_3 from Kd.Q_mono ho0_3 (fun k_ hk => (.inl hk)))
 have HK := uD (Kept.refl w (fun k_ => P0_3_ k_))
 have HW0 := uD hB.size
 have HB := uD hB
 clear hB
 have H : (impl_stepped.l0 k 0 a0_0 (l0_3.length : Int) 0 a0_0 a0_1 a0_2 l0_3) = some (r1, r2) := h
 clear h
 have H' := uD H
 clear H
 obtain ⟨Ao2, co2, eo2, _⟩ := Kd.Q_slice HO0_3.out
 subst eo2
 go_enter Try.func53, Try.ntmps53
 go_wp2_with (first | ((with_reducible refine gate_dst (N := 1) rfl ?_); refine bx 1 #[.int .i64 a0_0, .int .i64 a0_1, .bool a0_2, .slice Ao2 l0_3.length co2] 29 ?_; intro gb158 hg w3 hbox hb; replace HO0_3 := uD (Kd.Q_below (pq HO0_3) hb); have BK158 := uD (hbox); have GW158 := uD ((by rw [hg]; exact (by first | exact HK.out.1 | exact (show Kept w _ (fun k_ => P0_3_ k_) from by repeat (first | (with_reducible first | exact HK.out | apply Kept.alloc | apply Kept.drewN | apply Kept.drew) | exact HK.out)).1) : w.heap.size ≤ gb158)); replace HK := uD (Kept.below (S := (fun k_ => P0_3_ k_)) (by repeat (first | (with_reducible first | exact HK.out | apply Kept.alloc | apply Kept.drewN | apply Kept.drew) | exact HK.out)) hb); have GE158 := uD ((by rw [hg]; exact (uN (pb HB)) : w0.heap.size ≤ gb158)); replace HB := uD (uO (pb HB) hb); clear hb hbox hg; obtain ⟨hcz4_0, hcz4_1, hcz4_2, hcz4_3, hfz4_0, hfz4_1, hfz4_2, hfz4_3⟩ := cz4 BK158))
 repeat (go_quiet (first | ((with_reducible refine gate_dst (N := 1) rfl ?_); refine bx 1 #[.int .i64 a0_0, .int .i64 a0_1, .bool a0_2, .slice Ao2 l0_3.length co2] 29 ?_; intro gb158 hg w3 hbox hb; replace HO0_3 := uD (Kd.Q_below (pq HO0_3) hb); have BK158 := uD (hbox); have GW158 := uD ((by rw [hg]; exact (by first | exact HK.out.1 | exact (show Kept w _ (fun k_ => P0_3_ k_) from by repeat (first | (with_reducible first | exact HK.out | apply Kept.alloc | apply Kept.drewN | apply Kept.drew) | exact HK.out)).1) : w.heap.size ≤ gb158)); replace HK := uD (Kept.below (S := (fun k_ => P0_3_ k_)) (by repeat (first | (with_reducible first | exact HK.out | apply Kept.alloc | apply Kept.drewN | apply Kept.drew) | exact HK.out)) hb); have GE158 := uD ((by rw [hg]; exact (uN (pb HB)) : w0.heap.size ≤ gb158)); replace HB := uD (uO (pb HB) hb); clear hb hbox hg; obtain ⟨hcz4_0, hcz4_1, hcz4_2, hcz4_3, hfz4_0, hfz4_1, hfz4_2, hfz4_3⟩ := cz4 BK158)); try go_wp2_with (first | ((with_reducible refine gate_dst (N := 1) rfl ?_); refine bx 1 #[.int .i64 a0_0, .int .i64 a0_1, .bool a0_2, .slice Ao2 l0_3.length co2] 29 ?_; intro gb158 hg w3 hbox hb; replace HO0_3 := uD (Kd.Q_below (pq HO0_3) hb); have BK158 := uD (hbox); have GW158 := uD ((by rw [hg]; exact (by first | exact HK.out.1 | exact (show Kept w _ (fun k_ => P0_3_ k_) from by repeat (first | (with_reducible first | exact HK.out | apply Kept.alloc | apply Kept.drewN | apply Kept.drew) | exact HK.out)).1) : w.heap.size ≤ gb158)); replace HK := uD (Kept.below (S := (fun k_ => P0_3_ k_)) (by repeat (first | (with_reducible first | exact HK.out | apply Kept.alloc | apply Kept.drewN | apply Kept.drew) | exact HK.out)) hb); have GE158 := uD ((by rw [hg]; exact (uN (pb HB)) : w0.heap.size ≤ gb158)); replace HB := uD (uO (pb HB) hb); clear hb hbox hg; obtain ⟨hcz4_0, hcz4_1, hcz4_2, hcz4_3, hfz4_0, hfz4_1, hfz4_2, hfz4_3⟩ := cz4 BK158)))
 go_loopg [3, 4, 12] k (fun kq v3 v4 v12 w' => ∃ (x3_1 : Int) (x4_1 : Int) (x12_1 : Int) (x159003_1 : List (S53)), v3 = .int .i64 x3_1 ∧ v4 = .int .i64 x4_1 ∧ v12 = .int .i64 x12_1 ∧ Aside0 (impl_stepped.l0 kq x3_1 x4_1 (l0_3.length : Int) x12_1 a0_0 a0_1 a0_2 x159003_1 = some (r1, r2)) ∧ Aside0 (kq ≤ k) ∧ Aside0 (Kd.Q k53 53 w' w0.heap.size (fun k_ => (P0_3_ k_ ∨ w.heap.size ≤ k_)) (.slice Ao2 l0_3.length co2) x159003_1) ∧ Aside0 (w'.heap[gb158]? = some (.cells #[.int .i64 a0_0, .int .i64 a0_1, .bool a0_2, (.slice Ao2 l0_3.length co2)] 29 (0, 0))) ∧ Aside0 (Kept w w' (fun k_ => P0_3_ k_)) ∧ Aside0 (Below w0.heap.size w0 w'))
 case atStart => exact ⟨(0), (a0_0), (0), (l0_3), (by first | rfl | (simp; done) | (simp [*]; done)), (by first | rfl | (simp; done) | (simp [*]; done)), (by first | rfl | (simp; done) | (simp [*]; done)), H', ⟨Nat.le_refl _⟩, ⟨by (with_reducible repeat (first | apply Kd.Q_alloc | apply Kd.Q_drewN | apply Kd.Q_drew)); exact HO0_3.out⟩, ⟨by (with_reducible repeat first|apply uH|apply uJ|apply uG); exact BK158.out⟩, ⟨by repeat (first | (with_reducible first | exact HK.out | apply Kept.alloc | apply Kept.drewN | apply Kept.drew | refine Kept.setCell ?_ (.inr GW158.out) _) | exact HK.out)⟩, ⟨pb HB⟩⟩
 case round =>
  clear H'
  try clear p2
  try clear hcz4_0
  try clear hcz4_1
  try clear hcz4_2
  try clear hcz4_3
  try clear hfz4_0
  try clear hfz4_1
  try clear hfz4_2
  try clear hfz4_3
  obtain ⟨x3_1, x4_1, x12_1, x159003_1, rfl, rfl, rfl, HA, HK1, HO_159003, BK158, HK, HB⟩ := hrel
  have hl159003_1 := (Kd.Q_reads' HO_159003.out).1
  rw [hl159003_1] at HO_159003
  (try simp only [hl159003_1])
  (try simp only [hl159003_1] at BK158)
  cases gk with
  | zero => exact absurd HA.out (by simp [impl_stepped.l0])
  | succ k1 =>
   have H := HA.out
   clear HA
   simp only [impl_stepped.l0] at H
   by_cases c5 : x12_1 < (l0_3.length : Int)
   ·rw [if_pos c5] at H
    have c5b0 : decide (x12_1 < (l0_3.length : Int)) = true := decide_eq_true c5
    (try simp only [hl159003_1] at c5b0)
    clear c5
    by_cases c6 : 0 ≤ x12_1
    ·rw [if_pos c6] at H
     have c6b0 : decide (0 ≤ x12_1) = true := decide_eq_true c6
     clear c6
     by_cases c7 : x12_1 < (x159003_1.length : Int)
     ·rw [if_pos c7] at H
      have c7b0 : decide (x12_1 < (x159003_1.length : Int)) = true := decide_eq_true c7
      (try simp only [hl159003_1] at c7b0)
      clear c7
      by_cases c8 : ((rd_T53 x159003_1 x12_1).f1) < x4_1
      ·rw [if_pos c8] at H
       have c8b0 : decide (((rd_T53 x159003_1 x12_1).f1) < x4_1) = true := decide_eq_true c8
       clear c8
       obtain ⟨y162, hy162⟩ : ∃ y_ : List (S53), y_ = (x159003_1.set (x12_1 : Int).toNat (⟨(rd_T53 x159003_1 x12_1).f0, wrap64 (((rd_T53 x159003_1 x12_1).f1) + 1), (rd_T53 x159003_1 x12_1).f2⟩ : S53)) := ⟨_, rfl⟩
       replace H : (impl_stepped.l0 k1 (wrap64 (x3_1 + 1)) (wrap64 ((wrap64 (((rd_T53 y162 x12_1).f1) - ((rd_T53 x159003_1 x12_1).f2))) - a0_1)) (l0_3.length : Int) (wrap64 (x12_1 + 1)) a0_0 a0_1 a0_2 y162) = some (r1, r2) := by first | (rw [hy162]; with_reducible exact H) | (have H2_ := (Option.bind_some _ _).symm.trans H; rw [hy162]; with_reducible exact H2_) | (have H2_ := (Option.bind_some _ _).symm.trans H; with_reducible exact H2_) | with_reducible exact H | (rw [hy162]; exact H) | exact H
       have Ny162 := uD hy162
       clear hy162
       have H' := uD H
       clear H
       have p159 : 0 ≤ (x12_1 : Int) := of_decide_eq_true (by first | (with_reducible assumption) | assumption)
       have q159 : x12_1 < (x159003_1.length : Int) := of_decide_eq_true (by first | (with_reducible assumption) | assumption)
       obtain ⟨ad159, e159, hx159_0, hx159_1, hx159_2⟩ := at_T53 (Kd.Q_reads' HO_159003.out).2.2 x12_1 p159 q159
       cases e159
       replace p159 := eq_true p159
       replace q159 := eq_true q159
       go_wp2_with (first | ((with_reducible refine gate_dst (N := 6) rfl ?_); refine bx 6 #[.int .i64 0, .int .i64 0, .int .i64 0] 53 ?_; intro gb160 hg w10 hbox hb; replace HO_159003 := uD (Kd.Q_below (Kd.Q_elderB (pq HO_159003) gb160 (Nat.le_of_eq hg.symm)) hb); have BK160 := uD (hbox); have GW160 := uD ((by rw [hg]; exact (by first | exact HK.out.1 | exact (show Kept w _ (fun k_ => P0_3_ k_) from by repeat (first | (with_reducible first | exact HK.out | apply Kept.alloc | apply Kept.drewN | apply Kept.drew | refine Kept.setCell ?_ (.inr GW158.out) _) | exact HK.out)).1) : w.heap.size ≤ gb160)); replace HK := uD (Kept.below (S := (fun k_ => P0_3_ k_)) (by repeat (first | (with_reducible first | exact HK.out | apply Kept.alloc | apply Kept.drewN | apply Kept.drew | refine Kept.setCell ?_ (.inr GW158.out) _) | exact HK.out)) hb); have GE160 := uD ((by rw [hg]; exact (uN (pb HB)) : w0.heap.size ≤ gb160)); replace HB := uD (uO (pb HB) hb); have NB158_160 := uD ((by rw [hg]; exact Nat.ne_of_lt (blk_lt (pk BK158)) : gb158 ≠ gb160)); have NB160_158 := uD ((by rw [hg]; exact Nat.ne_of_gt (blk_lt (pk BK158)) : gb160 ≠ gb158)); replace BK158 := uD (blk_below (pk BK158) hb); clear hb hbox hg; have hnb11 := NB160_158.out; have hnc11 := NB158_160.out; obtain ⟨hcz12_0, hcz12_1, hcz12_2, hfz12_0, hfz12_1, hfz12_2⟩ := cz3 BK160) | ((with_reducible refine gate_store (t := 53) (p := 6) rfl ?_); (try (rw [drewN_self w10]; generalize hq_ : World.drewN w10 _ = w10; have n0_ := uD (Kd.Q_at hq_ HO_159003.out); have n1_ := uD (blk_at hq_ BK158.out); have n2_ := uD (blk_at hq_ BK160.out); have n3_ := uD (kept_at hq_ HK.out); have n4_ := uD (below_at hq_ HB.out); clear hq_ HO_159003 BK158 BK160 HK HB; have HO_159003 := n0_; have BK158 := n1_; have BK160 := n2_; have HK := n3_; have HB := n4_; clear n0_ n1_ n2_ n3_ n4_)); refine store_event (t := 53) (p := 6) (v := ?vo_w13) (w1 := (((w10.setCell ⟨gb160, 0, none⟩ (.int .i64 ((rd_T53 x159003_1 x12_1).f0))).setCell ⟨gb160, 1, none⟩ (.int .i64 ((rd_T53 x159003_1 x12_1).f1))).setCell ⟨gb160, 2, none⟩ (.int .i64 ((rd_T53 x159003_1 x12_1).f2)))) ?hg ?ho ?hn ?hr ?_; (case ho => rfl); (case hg => rfl); (case hn => rfl); (case hr => first | (go_simp; done) | (go_simp; rfl)); intro w13 hw; have n0_ : Aside0 (Kd.Q k53 53 w13 w0.heap.size (fun k_ => (P0_3_ k_ ∨ w.heap.size ≤ k_) ∧ k_ ≠ gb160) (.slice (some ad159) x159003_1.length co2) x159003_1) := ⟨(by rw [hw]; exact (by (with_reducible repeat (first | apply Kd.Q_alloc | apply Kd.Q_drewN | apply Kd.Q_drew)); exact Kd.Q_mono (Kd.Q_far (p := ⟨gb160, 2, none⟩) (Kd.Q_far (p := ⟨gb160, 1, none⟩) (Kd.Q_far (p := ⟨gb160, 0, none⟩) (Kd.Q_mono HO_159003.out (fun k_ hk => (⟨hk, hk.2⟩ : _ ∧ k_ ≠ gb160))) (fun _ hk => hk.2) (.int .i64 ((rd_T53 x159003_1 x12_1).f0))) (fun _ hk => hk.2) (.int .i64 ((rd_T53 x159003_1 x12_1).f1))) (fun _ hk => hk.2) (.int .i64 ((rd_T53 x159003_1 x12_1).f2))) (fun _ hk => ⟨hk.1.1, hk.1.2⟩)))⟩; have n1_ : Aside0 (w13.heap[gb158]? = some (.cells #[.int .i64 a0_0, .int .i64 a0_1, .bool a0_2, .slice (some ad159) x159003_1.length co2] 29 (0, 0))) := ⟨(by rw [hw]; exact (by exact ps BK158))⟩; have n2_ : Aside0 (w13.heap[gb160]? = some (.cells #[.int .i64 ((rd_T53 x159003_1 x12_1).f0), .int .i64 ((rd_T53 x159003_1 x12_1).f1), .int .i64 ((rd_T53 x159003_1 x12_1).f2)] 53 (0, 0))) := ⟨(by rw [hw]; exact (by (with_reducible repeat first|apply uH|apply uJ|apply uG); refine uP (cs := #[.int .i64 ((rd_T53 x159003_1 x12_1).f0), .int .i64 ((rd_T53 x159003_1 x12_1).f1), .int .i64 0]) ?_ 2 _ rfl; (with_reducible repeat first|apply uH|apply uJ|apply uG); refine uP (cs := #[.int .i64 ((rd_T53 x159003_1 x12_1).f0), .int .i64 0, .int .i64 0]) ?_ 1 _ rfl; (with_reducible repeat first|apply uH|apply uJ|apply uG); refine uP (cs := #[.int .i64 0, .int .i64 0, .int .i64 0]) ?_ 0 _ rfl; (with_reducible repeat first|apply uH|apply uJ|apply uG); exact BK160.out))⟩; have n3_ : Aside0 (Kept w w13 (fun k_ => P0_3_ k_)) := ⟨(by rw [hw]; exact (by repeat (first | (with_reducible first | exact HK.out | apply Kept.alloc | apply Kept.drewN | apply Kept.drew | refine Kept.setCell ?_ (.inr GW158.out) _ | refine Kept.setCell ?_ (.inr GW160.out) _) | exact HK.out)))⟩; have n4_ : Aside0 (Below w0.heap.size w0 w13) := ⟨(by rw [hw]; exact (pb HB))⟩; clear hw; clear HO_159003; clear BK158; clear BK160; clear HK; clear HB; have HO_159003 := n0_; have BK158 := n1_; have BK160 := n2_; have HK := n3_; have HB := n4_; clear n0_ n1_ n2_ n3_ n4_; obtain ⟨hcz14_0, hcz14_1, hcz14_2, hfz14_0, hfz14_1, hfz14_2⟩ := cz3 BK160; obtain ⟨hcz15_0, hcz15_1, hcz15_2, hcz15_3, hfz15_0, hfz15_1, hfz15_2, hfz15_3⟩ := cz4 BK158; have p161 : 0 ≤ (x12_1 : Int) := of_decide_eq_true (by first | (with_reducible assumption) | assumption); have q161 : x12_1 < (x159003_1.length : Int) := of_decide_eq_true (by first | (with_reducible assumption) | assumption); obtain ⟨ad161, e161, hx161_0, hx161_1, hx161_2⟩ := at_T53 (Kd.Q_reads' HO_159003.out).2.2 x12_1 p161 q161; obtain rfl : ad159 = ad161 := (by injection e161); replace p161 := eq_true p161; replace q161 := eq_true q161; have p9 : 0 ≤ (x12_1 : Int) := of_decide_eq_true (by first | (with_reducible assumption) | assumption); have q9 : (x12_1 : Int) < ((x159003_1.length : Int) : Int) := of_decide_eq_true (by first | (with_reducible assumption) | assumption); obtain ⟨go9, oo9, co9, eo9, gb9, gl9, cl9, HG9⟩ := Kd.Q_form HO_159003.out (by omega); (first | cases eo9 | (injection eo9 with ea_ en_ ec_; (first | subst ea_ | (injection ea_ with ea_; subst ea_)); subst ec_; clear en_)); have GB9 := uD gb9; have GG9 := uD HG9; clear gb9 gl9 HG9; have HMgo9 := uD (show (P0_3_ go9 ∨ w.heap.size ≤ go9) from (HO_159003.out.1 _ rfl).1); (first | simp only [add_at] at hx159_0 | skip); (first | simp only [add_at] at hx159_1 | skip); (first | simp only [add_at] at hx159_2 | skip); (first | simp only [add_at] at hx161_0 | skip); (first | simp only [add_at] at hx161_1 | skip); (first | simp only [add_at] at hx161_2 | skip); obtain ⟨ce9, hcl9, hM9, hcc9, hfr9⟩ := Kd.Q_elem HO_159003.out z53 (x12_1 : Int) p9 q9; obtain rfl := k53_openM hM9; have hx9_0 : w13.cell? ⟨go9, oo9 + (x12_1 : Int).toNat * 3, none⟩ = some (.int .i64 ((rd_T53 x159003_1 x12_1).f0)) := hcc9 0 _ rfl; have hx9_1 : w13.cell? ⟨go9, oo9 + (x12_1 : Int).toNat * 3 + 1, none⟩ = some (.int .i64 ((rd_T53 x159003_1 x12_1).f1)) := hcc9 1 _ rfl; have hx9_2 : w13.cell? ⟨go9, oo9 + (x12_1 : Int).toNat * 3 + 2, none⟩ = some (.int .i64 ((rd_T53 x159003_1 x12_1).f2)) := hcc9 2 _ rfl; have hf9_0 : w13.frozen? ⟨go9, oo9 + (x12_1 : Int).toNat * 3, none⟩ = false := hfr9 0; have hf9_1 : w13.frozen? ⟨go9, oo9 + (x12_1 : Int).toNat * 3 + 1, none⟩ = false := hfr9 1; have hf9_2 : w13.frozen? ⟨go9, oo9 + (x12_1 : Int).toNat * 3 + 2, none⟩ = false := hfr9 2; clear hcl9 hcc9 hfr9 hM9; replace p9 := eq_true p9; replace q9 := eq_true q9; have HX16 := uD (show Kd.Q k53 53 w13 w0.heap.size (fun k_ => (P0_3_ k_ ∨ w.heap.size ≤ k_) ∧ k_ ≠ gb160) (.slice (some ⟨go9, oo9, none⟩) x159003_1.length co2) x159003_1 from (pq HO_159003)); obtain ⟨ce16, hcl16, hM16, hcc16, hfr16⟩ := Kd.Q_elem HX16.out z53 (x12_1 : Int) (of_decide_eq_true (by first | (with_reducible assumption) | assumption)) (by have h_ : (x12_1 : Int) < ((x159003_1.length : Int) : Int) := of_decide_eq_true (by first | (with_reducible assumption) | assumption); first | exact h_ | (have e_ := (Kd.Q_reads' HO_159003.out).1; omega) | simpa using h_); obtain rfl := k53_openM hM16; have HP16 := Kd.Q_seg HX16.out (x12_1 : Int) (of_decide_eq_true (by first | (with_reducible assumption) | assumption)) (by have h_ : (x12_1 : Int) < ((x159003_1.length : Int) : Int) := of_decide_eq_true (by first | (with_reducible assumption) | assumption); first | exact h_ | (have e_ := (Kd.Q_reads' HO_159003.out).1; omega) | simpa using h_) (seg := [.int .i64 (wrap64 (((rd_T53 x159003_1 x12_1).f1) + 1))]) (j := 1) hcl16 hcc16 (show 2 ≤ 3 from by decide) (x' := (⟨(rd_T53 x159003_1 x12_1).f0, wrap64 (((rd_T53 x159003_1 x12_1).f1) + 1), (rd_T53 x159003_1 x12_1).f2⟩ : S53)) (k53_mkM _ _ _ (⟨(rd_T53 x159003_1 x12_1).f0, wrap64 (((rd_T53 x159003_1 x12_1).f1) + 1), (rd_T53 x159003_1 x12_1).f2⟩ : S53) ) (fun _ hk => hk); have hx16_1 := hcc16 1 _ rfl; (try simp only [show (k53).sz = 3 from rfl, Nat.mul_one, Nat.add_zero] at hx16_1); have hf16_1 := hfr16 1; (try simp only [show (k53).sz = 3 from rfl, Nat.mul_one, Nat.add_zero] at hf16_1); clear hcl16 hcc16 hfr16 hM16) | ((with_reducible refine gate_store (t := 3) (p := 29) rfl ?_); (try (rw [drewN_self w13]; generalize hq_ : World.drewN w13 _ = w13; have n0_ := uD (Kd.Q_at hq_ HO_159003.out); have n1_ := uD (blk_at hq_ BK158.out); have n2_ := uD (blk_at hq_ BK160.out); have n3_ := uD (kept_at hq_ HK.out); have n4_ := uD (below_at hq_ HB.out); clear hq_ HO_159003 BK158 BK160 HK HB; have HO_159003 := n0_; have BK158 := n1_; have BK160 := n2_; have HK := n3_; have HB := n4_; clear n0_ n1_ n2_ n3_ n4_; (try (have HX16 := uD (show Kd.Q k53 53 w13 w0.heap.size (fun k_ => (P0_3_ k_ ∨ w.heap.size ≤ k_) ∧ k_ ≠ gb160) (.slice (some ⟨go9, oo9, none⟩) x159003_1.length co2) x159003_1 from (pq HO_159003)))); (try (obtain ⟨ce16, hcl16, hM16, hcc16, hfr16⟩ := Kd.Q_elem HX16.out z53 (x12_1 : Int) (of_decide_eq_true (by first | (with_reducible assumption) | assumption)) (by have h_ : (x12_1 : Int) < ((x159003_1.length : Int) : Int) := of_decide_eq_true (by first | (with_reducible assumption) | assumption); first | exact h_ | (have e_ := (Kd.Q_reads' HO_159003.out).1; omega) | simpa using h_))); (try (obtain rfl := k53_openM hM16)); (try (have HP16 := Kd.Q_seg HX16.out (x12_1 : Int) (of_decide_eq_true (by first | (with_reducible assumption) | assumption)) (by have h_ : (x12_1 : Int) < ((x159003_1.length : Int) : Int) := of_decide_eq_true (by first | (with_reducible assumption) | assumption); first | exact h_ | (have e_ := (Kd.Q_reads' HO_159003.out).1; omega) | simpa using h_) (seg := [.int .i64 (wrap64 (((rd_T53 x159003_1 x12_1).f1) + 1))]) (j := 1) hcl16 hcc16 (show 2 ≤ 3 from by decide) (x' := (⟨(rd_T53 x159003_1 x12_1).f0, wrap64 (((rd_T53 x159003_1 x12_1).f1) + 1), (rd_T53 x159003_1 x12_1).f2⟩ : S53)) (k53_mkM _ _ _ (⟨(rd_T53 x159003_1 x12_1).f0, wrap64 (((rd_T53 x159003_1 x12_1).f1) + 1), (rd_T53 x159003_1 x12_1).f2⟩ : S53) ) (fun _ hk => hk))); (try (have hx16_1 := hcc16 1 _ rfl)); (try (try simp only [show (k53).sz = 3 from rfl, Nat.mul_one, Nat.add_zero] at hx16_1)); (try (have hf16_1 := hfr16 1)); (try (try simp only [show (k53).sz = 3 from rfl, Nat.mul_one, Nat.add_zero] at hf16_1)); (try (clear hcl16 hcc16 hfr16 hM16)))); refine store_event (t := 3) (p := 29) (v := ?vo_w17) (w1 := (w13.setCell ⟨go9, oo9 + (x12_1 : Int).toNat * 3 + 1, none⟩ (.int .i64 (wrap64 (((rd_T53 x159003_1 x12_1).f1) + 1))))) ?hg ?ho ?hn ?hr ?_; (case ho => rfl); (case hg => rfl); (case hn => rfl); (case hr => first | (go_simp; done) | (go_simp; rfl)); intro w17 hw; have hg : w13.grownBy w17 (some go9) := (by rw [hw]; exact HP16.2); have hp_ : Kd.Q k53 53 w17 w0.heap.size (fun k_ => (P0_3_ k_ ∨ w.heap.size ≤ k_) ∧ k_ ≠ gb160) (.slice (some ⟨go9, oo9, none⟩) x159003_1.length co2) y162 := (by rw [hw, Ny162.out]; exact HP16.1); clear HP16; replace BK158 := uD (blk_grown (pk BK158) hg (Kd.Q_ne HO_159003.out BK158.out (by decide))); replace BK160 := uD (blk_grown (pk BK160) hg (Kd.Q_away HO_159003.out (fun _ hk => hk.2))); replace HB := uD ((by rw [hw]; exact uM (HB.out) GB9.out : Below w0.heap.size w0 w17)); replace HK := uD (Kept.of_grown (S := (fun k_ => P0_3_ k_)) hg (by repeat (first | (with_reducible first | exact HK.out | apply Kept.alloc | apply Kept.drewN | apply Kept.drew | refine Kept.setCell ?_ (.inr GW158.out) _ | refine Kept.setCell ?_ (.inr GW160.out) _) | exact HK.out)) (fun k_ e_ => (HO_159003.out.1 k_ e_).1)); replace HO_159003 := uD (hp_); clear hg hw hp_; obtain ⟨hcz18_0, hcz18_1, hcz18_2, hcz18_3, hfz18_0, hfz18_1, hfz18_2, hfz18_3⟩ := cz4 BK158; have p163 : 0 ≤ (x12_1 : Int) := of_decide_eq_true (by first | (with_reducible assumption) | assumption); have q163 : x12_1 < (y162.length : Int) := (by have h_ : (x12_1 : Int) < ((x159003_1.length : Int) : Int) := of_decide_eq_true (by first | (with_reducible assumption) | assumption); first | (have e_ := (Kd.Q_reads' HO_159003.out).1; omega) | simpa only [Ny162.out, List.length_set] using h_); have ql163 : ((x12_1 : Int) < ((x159003_1.length : Int) : Int)) = True := eq_true (of_decide_eq_true (by first | (with_reducible assumption) | assumption)); obtain ⟨ad163, e163, hx163_0, hx163_1, hx163_2⟩ := at_T53 (Kd.Q_reads' HO_159003.out).2.2 x12_1 p163 q163; obtain rfl : (⟨go9, oo9, none⟩ : Addr) = ad163 := (by injection e163); (first | simp only [add_plain] at hx163_0 | simp only [add_at] at hx163_0 | simp only [Addr.add, Nat.zero_add] at hx163_0 | skip); (first | simp only [add_plain] at hx163_1 | simp only [add_at] at hx163_1 | simp only [Addr.add, Nat.zero_add] at hx163_1 | skip); (first | simp only [add_plain] at hx163_2 | simp only [add_at] at hx163_2 | simp only [Addr.add, Nat.zero_add] at hx163_2 | skip); replace p163 := eq_true p163; replace q163 := eq_true q163; obtain ⟨hcz19_0, hcz19_1, hcz19_2, hfz19_0, hfz19_1, hfz19_2⟩ := cz3 BK160))
       repeat (go_quiet (first | ((with_reducible refine gate_dst (N := 6) rfl ?_); refine bx 6 #[.int .i64 0, .int .i64 0, .int .i64 0] 53 ?_; intro gb160 hg w10 hbox hb; replace HO_159003 := uD (Kd.Q_below (Kd.Q_elderB (pq HO_159003) gb160 (Nat.le_of_eq hg.symm)) hb); have BK160 := uD (hbox); have GW160 := uD ((by rw [hg]; exact (by first | exact HK.out.1 | exact (show Kept w _ (fun k_ => P0_3_ k_) from by repeat (first | (with_reducible first | exact HK.out | apply Kept.alloc | apply Kept.drewN | apply Kept.drew | refine Kept.setCell ?_ (.inr GW158.out) _) | exact HK.out)).1) : w.heap.size ≤ gb160)); replace HK := uD (Kept.below (S := (fun k_ => P0_3_ k_)) (by repeat (first | (with_reducible first | exact HK.out | apply Kept.alloc | apply Kept.drewN | apply Kept.drew | refine Kept.setCell ?_ (.inr GW158.out) _) | exact HK.out)) hb); have GE160 := uD ((by rw [hg]; exact (uN (pb HB)) : w0.heap.size ≤ gb160)); replace HB := uD (uO (pb HB) hb); have NB158_160 := uD ((by rw [hg]; exact Nat.ne_of_lt (blk_lt (pk BK158)) : gb158 ≠ gb160)); have NB160_158 := uD ((by rw [hg]; exact Nat.ne_of_gt (blk_lt (pk BK158)) : gb160 ≠ gb158)); replace BK158 := uD (blk_below (pk BK158) hb); clear hb hbox hg; have hnb11 := NB160_158.out; have hnc11 := NB158_160.out; obtain ⟨hcz12_0, hcz12_1, hcz12_2, hfz12_0, hfz12_1, hfz12_2⟩ := cz3 BK160) | ((with_reducible refine gate_store (t := 53) (p := 6) rfl ?_); (try (rw [drewN_self w10]; generalize hq_ : World.drewN w10 _ = w10; have n0_ := uD (Kd.Q_at hq_ HO_159003.out); have n1_ := uD (blk_at hq_ BK158.out); have n2_ := uD (blk_at hq_ BK160.out); have n3_ := uD (kept_at hq_ HK.out); have n4_ := uD (below_at hq_ HB.out); clear hq_ HO_159003 BK158 BK160 HK HB; have HO_159003 := n0_; have BK158 := n1_; have BK160 := n2_; have HK := n3_; have HB := n4_; clear n0_ n1_ n2_ n3_ n4_)); refine store_event (t := 53) (p := 6) (v := ?vo_w13) (w1 := (((w10.setCell ⟨gb160, 0, none⟩ (.int .i64 ((rd_T53 x159003_1 x12_1).f0))).setCell ⟨gb160, 1, none⟩ (.int .i64 ((rd_T53 x159003_1 x12_1).f1))).setCell ⟨gb160, 2, none⟩ (.int .i64 ((rd_T53 x159003_1 x12_1).f2)))) ?hg ?ho ?hn ?hr ?_; (case ho => rfl); (case hg => rfl); (case hn => rfl); (case hr => first | (go_simp; done) | (go_simp; rfl)); intro w13 hw; have n0_ : Aside0 (Kd.Q k53 53 w13 w0.heap.size (fun k_ => (P0_3_ k_ ∨ w.heap.size ≤ k_) ∧ k_ ≠ gb160) (.slice (some ad159) x159003_1.length co2) x159003_1) := ⟨(by rw [hw]; exact (by (with_reducible repeat (first | apply Kd.Q_alloc | apply Kd.Q_drewN | apply Kd.Q_drew)); exact Kd.Q_mono (Kd.Q_far (p := ⟨gb160, 2, none⟩) (Kd.Q_far (p := ⟨gb160, 1, none⟩) (Kd.Q_far (p := ⟨gb160, 0, none⟩) (Kd.Q_mono HO_159003.out (fun k_ hk => (⟨hk, hk.2⟩ : _ ∧ k_ ≠ gb160))) (fun _ hk => hk.2) (.int .i64 ((rd_T53 x159003_1 x12_1).f0))) (fun _ hk => hk.2) (.int .i64 ((rd_T53 x159003_1 x12_1).f1))) (fun _ hk => hk.2) (.int .i64 ((rd_T53 x159003_1 x12_1).f2))) (fun _ hk => ⟨hk.1.1, hk.1.2⟩)))⟩; have n1_ : Aside0 (w13.heap[gb158]? = some (.cells #[.int .i64 a0_0, .int .i64 a0_1, .bool a0_2, .slice (some ad159) x159003_1.length co2] 29 (0, 0))) := ⟨(by rw [hw]; exact (by exact ps BK158))⟩; have n2_ : Aside0 (w13.heap[gb160]? = some (.cells #[.int .i64 ((rd_T53 x159003_1 x12_1).f0), .int .i64 ((rd_T53 x159003_1 x12_1).f1), .int .i64 ((rd_T53 x159003_1 x12_1).f2)] 53 (0, 0))) := ⟨(by rw [hw]; exact (by (with_reducible repeat first|apply uH|apply uJ|apply uG); refine uP (cs := #[.int .i64 ((rd_T53 x159003_1 x12_1).f0), .int .i64 ((rd_T53 x159003_1 x12_1).f1), .int .i64 0]) ?_ 2 _ rfl; (with_reducible repeat first|apply uH|apply uJ|apply uG); refine uP (cs := #[.int .i64 ((rd_T53 x159003_1 x12_1).f0), .int .i64 0, .int .i64 0]) ?_ 1 _ rfl; (with_reducible repeat first|apply uH|apply uJ|apply uG); refine uP (cs := #[.int .i64 0, .int .i64 0, .int .i64 0]) ?_ 0 _ rfl; (with_reducible repeat first|apply uH|apply uJ|apply uG); exact BK160.out))⟩; have n3_ : Aside0 (Kept w w13 (fun k_ => P0_3_ k_)) := ⟨(by rw [hw]; exact (by repeat (first | (with_reducible first | exact HK.out | apply Kept.alloc | apply Kept.drewN | apply Kept.drew | refine Kept.setCell ?_ (.inr GW158.out) _ | refine Kept.setCell ?_ (.inr GW160.out) _) | exact HK.out)))⟩; have n4_ : Aside0 (Below w0.heap.size w0 w13) := ⟨(by rw [hw]; exact (pb HB))⟩; clear hw; clear HO_159003; clear BK158; clear BK160; clear HK; clear HB; have HO_159003 := n0_; have BK158 := n1_; have BK160 := n2_; have HK := n3_; have HB := n4_; clear n0_ n1_ n2_ n3_ n4_; obtain ⟨hcz14_0, hcz14_1, hcz14_2, hfz14_0, hfz14_1, hfz14_2⟩ := cz3 BK160; obtain ⟨hcz15_0, hcz15_1, hcz15_2, hcz15_3, hfz15_0, hfz15_1, hfz15_2, hfz15_3⟩ := cz4 BK158; have p161 : 0 ≤ (x12_1 : Int) := of_decide_eq_true (by first | (with_reducible assumption) | assumption); have q161 : x12_1 < (x159003_1.length : Int) := of_decide_eq_true (by first | (with_reducible assumption) | assumption); obtain ⟨ad161, e161, hx161_0, hx161_1, hx161_2⟩ := at_T53 (Kd.Q_reads' HO_159003.out).2.2 x12_1 p161 q161; obtain rfl : ad159 = ad161 := (by injection e161); replace p161 := eq_true p161; replace q161 := eq_true q161; have p9 : 0 ≤ (x12_1 : Int) := of_decide_eq_true (by first | (with_reducible assumption) | assumption); have q9 : (x12_1 : Int) < ((x159003_1.length : Int) : Int) := of_decide_eq_true (by first | (with_reducible assumption) | assumption); obtain ⟨go9, oo9, co9, eo9, gb9, gl9, cl9, HG9⟩ := Kd.Q_form HO_159003.out (by omega); (first | cases eo9 | (injection eo9 with ea_ en_ ec_; (first | subst ea_ | (injection ea_ with ea_; subst ea_)); subst ec_; clear en_)); have GB9 := uD gb9; have GG9 := uD HG9; clear gb9 gl9 HG9; have HMgo9 := uD (show (P0_3_ go9 ∨ w.heap.size ≤ go9) from (HO_159003.out.1 _ rfl).1); (first | simp only [add_at] at hx159_0 | skip); (first | simp only [add_at] at hx159_1 | skip); (first | simp only [add_at] at hx159_2 | skip); (first | simp only [add_at] at hx161_0 | skip); (first | simp only [add_at] at hx161_1 | skip); (first | simp only [add_at] at hx161_2 | skip); obtain ⟨ce9, hcl9, hM9, hcc9, hfr9⟩ := Kd.Q_elem HO_159003.out z53 (x12_1 : Int) p9 q9; obtain rfl := k53_openM hM9; have hx9_0 : w13.cell? ⟨go9, oo9 + (x12_1 : Int).toNat * 3, none⟩ = some (.int .i64 ((rd_T53 x159003_1 x12_1).f0)) := hcc9 0 _ rfl; have hx9_1 : w13.cell? ⟨go9, oo9 + (x12_1 : Int).toNat * 3 + 1, none⟩ = some (.int .i64 ((rd_T53 x159003_1 x12_1).f1)) := hcc9 1 _ rfl; have hx9_2 : w13.cell? ⟨go9, oo9 + (x12_1 : Int).toNat * 3 + 2, none⟩ = some (.int .i64 ((rd_T53 x159003_1 x12_1).f2)) := hcc9 2 _ rfl; have hf9_0 : w13.frozen? ⟨go9, oo9 + (x12_1 : Int).toNat * 3, none⟩ = false := hfr9 0; have hf9_1 : w13.frozen? ⟨go9, oo9 + (x12_1 : Int).toNat * 3 + 1, none⟩ = false := hfr9 1; have hf9_2 : w13.frozen? ⟨go9, oo9 + (x12_1 : Int).toNat * 3 + 2, none⟩ = false := hfr9 2; clear hcl9 hcc9 hfr9 hM9; replace p9 := eq_true p9; replace q9 := eq_true q9; have HX16 := uD (show Kd.Q k53 53 w13 w0.heap.size (fun k_ => (P0_3_ k_ ∨ w.heap.size ≤ k_) ∧ k_ ≠ gb160) (.slice (some ⟨go9, oo9, none⟩) x159003_1.length co2) x159003_1 from (pq HO_159003)); obtain ⟨ce16, hcl16, hM16, hcc16, hfr16⟩ := Kd.Q_elem HX16.out z53 (x12_1 : Int) (of_decide_eq_true (by first | (with_reducible assumption) | assumption)) (by have h_ : (x12_1 : Int) < ((x159003_1.length : Int) : Int) := of_decide_eq_true (by first | (with_reducible assumption) | assumption); first | exact h_ | (have e_ := (Kd.Q_reads' HO_159003.out).1; omega) | simpa using h_); obtain rfl := k53_openM hM16; have HP16 := Kd.Q_seg HX16.out (x12_1 : Int) (of_decide_eq_true (by first | (with_reducible assumption) | assumption)) (by have h_ : (x12_1 : Int) < ((x159003_1.length : Int) : Int) := of_decide_eq_true (by first | (with_reducible assumption) | assumption); first | exact h_ | (have e_ := (Kd.Q_reads' HO_159003.out).1; omega) | simpa using h_) (seg := [.int .i64 (wrap64 (((rd_T53 x159003_1 x12_1).f1) + 1))]) (j := 1) hcl16 hcc16 (show 2 ≤ 3 from by decide) (x' := (⟨(rd_T53 x159003_1 x12_1).f0, wrap64 (((rd_T53 x159003_1 x12_1).f1) + 1), (rd_T53 x159003_1 x12_1).f2⟩ : S53)) (k53_mkM _ _ _ (⟨(rd_T53 x159003_1 x12_1).f0, wrap64 (((rd_T53 x159003_1 x12_1).f1) + 1), (rd_T53 x159003_1 x12_1).f2⟩ : S53) ) (fun _ hk => hk); have hx16_1 := hcc16 1 _ rfl; (try simp only [show (k53).sz = 3 from rfl, Nat.mul_one, Nat.add_zero] at hx16_1); have hf16_1 := hfr16 1; (try simp only [show (k53).sz = 3 from rfl, Nat.mul_one, Nat.add_zero] at hf16_1); clear hcl16 hcc16 hfr16 hM16) | ((with_reducible refine gate_store (t := 3) (p := 29) rfl ?_); (try (rw [drewN_self w13]; generalize hq_ : World.drewN w13 _ = w13; have n0_ := uD (Kd.Q_at hq_ HO_159003.out); have n1_ := uD (blk_at hq_ BK158.out); have n2_ := uD (blk_at hq_ BK160.out); have n3_ := uD (kept_at hq_ HK.out); have n4_ := uD (below_at hq_ HB.out); clear hq_ HO_159003 BK158 BK160 HK HB; have HO_159003 := n0_; have BK158 := n1_; have BK160 := n2_; have HK := n3_; have HB := n4_; clear n0_ n1_ n2_ n3_ n4_; (try (have HX16 := uD (show Kd.Q k53 53 w13 w0.heap.size (fun k_ => (P0_3_ k_ ∨ w.heap.size ≤ k_) ∧ k_ ≠ gb160) (.slice (some ⟨go9, oo9, none⟩) x159003_1.length co2) x159003_1 from (pq HO_159003)))); (try (obtain ⟨ce16, hcl16, hM16, hcc16, hfr16⟩ := Kd.Q_elem HX16.out z53 (x12_1 : Int) (of_decide_eq_true (by first | (with_reducible assumption) | assumption)) (by have h_ : (x12_1 : Int) < ((x159003_1.length : Int) : Int) := of_decide_eq_true (by first | (with_reducible assumption) | assumption); first | exact h_ | (have e_ := (Kd.Q_reads' HO_159003.out).1; omega) | simpa using h_))); (try (obtain rfl := k53_openM hM16)); (try (have HP16 := Kd.Q_seg HX16.out (x12_1 : Int) (of_decide_eq_true (by first | (with_reducible assumption) | assumption)) (by have h_ : (x12_1 : Int) < ((x159003_1.length : Int) : Int) := of_decide_eq_true (by first | (with_reducible assumption) | assumption); first | exact h_ | (have e_ := (Kd.Q_reads' HO_159003.out).1; omega) | simpa using h_) (seg := [.int .i64 (wrap64 (((rd_T53 x159003_1 x12_1).f1) + 1))]) (j := 1) hcl16 hcc16 (show 2 ≤ 3 from by decide) (x' := (⟨(rd_T53 x159003_1 x12_1).f0, wrap64 (((rd_T53 x159003_1 x12_1).f1) + 1), (rd_T53 x159003_1 x12_1).f2⟩ : S53)) (k53_mkM _ _ _ (⟨(rd_T53 x159003_1 x12_1).f0, wrap64 (((rd_T53 x159003_1 x12_1).f1) + 1), (rd_T53 x159003_1 x12_1).f2⟩ : S53) ) (fun _ hk => hk))); (try (have hx16_1 := hcc16 1 _ rfl)); (try (try simp only [show (k53).sz = 3 from rfl, Nat.mul_one, Nat.add_zero] at hx16_1)); (try (have hf16_1 := hfr16 1)); (try (try simp only [show (k53).sz = 3 from rfl, Nat.mul_one, Nat.add_zero] at hf16_1)); (try (clear hcl16 hcc16 hfr16 hM16)))); refine store_event (t := 3) (p := 29) (v := ?vo_w17) (w1 := (w13.setCell ⟨go9, oo9 + (x12_1 : Int).toNat * 3 + 1, none⟩ (.int .i64 (wrap64 (((rd_T53 x159003_1 x12_1).f1) + 1))))) ?hg ?ho ?hn ?hr ?_; (case ho => rfl); (case hg => rfl); (case hn => rfl); (case hr => first | (go_simp; done) | (go_simp; rfl)); intro w17 hw; have hg : w13.grownBy w17 (some go9) := (by rw [hw]; exact HP16.2); have hp_ : Kd.Q k53 53 w17 w0.heap.size (fun k_ => (P0_3_ k_ ∨ w.heap.size ≤ k_) ∧ k_ ≠ gb160) (.slice (some ⟨go9, oo9, none⟩) x159003_1.length co2) y162 := (by rw [hw, Ny162.out]; exact HP16.1); clear HP16; replace BK158 := uD (blk_grown (pk BK158) hg (Kd.Q_ne HO_159003.out BK158.out (by decide))); replace BK160 := uD (blk_grown (pk BK160) hg (Kd.Q_away HO_159003.out (fun _ hk => hk.2))); replace HB := uD ((by rw [hw]; exact uM (HB.out) GB9.out : Below w0.heap.size w0 w17)); replace HK := uD (Kept.of_grown (S := (fun k_ => P0_3_ k_)) hg (by repeat (first | (with_reducible first | exact HK.out | apply Kept.alloc | apply Kept.drewN | apply Kept.drew | refine Kept.setCell ?_ (.inr GW158.out) _ | refine Kept.setCell ?_ (.inr GW160.out) _) | exact HK.out)) (fun k_ e_ => (HO_159003.out.1 k_ e_).1)); replace HO_159003 := uD (hp_); clear hg hw hp_; obtain ⟨hcz18_0, hcz18_1, hcz18_2, hcz18_3, hfz18_0, hfz18_1, hfz18_2, hfz18_3⟩ := cz4 BK158; have p163 : 0 ≤ (x12_1 : Int) := of_decide_eq_true (by first | (with_reducible assumption) | assumption); have q163 : x12_1 < (y162.length : Int) := (by have h_ : (x12_1 : Int) < ((x159003_1.length : Int) : Int) := of_decide_eq_true (by first | (with_reducible assumption) | assumption); first | (have e_ := (Kd.Q_reads' HO_159003.out).1; omega) | simpa only [Ny162.out, List.length_set] using h_); have ql163 : ((x12_1 : Int) < ((x159003_1.length : Int) : Int)) = True := eq_true (of_decide_eq_true (by first | (with_reducible assumption) | assumption)); obtain ⟨ad163, e163, hx163_0, hx163_1, hx163_2⟩ := at_T53 (Kd.Q_reads' HO_159003.out).2.2 x12_1 p163 q163; obtain rfl : (⟨go9, oo9, none⟩ : Addr) = ad163 := (by injection e163); (first | simp only [add_plain] at hx163_0 | simp only [add_at] at hx163_0 | simp only [Addr.add, Nat.zero_add] at hx163_0 | skip); (first | simp only [add_plain] at hx163_1 | simp only [add_at] at hx163_1 | simp only [Addr.add, Nat.zero_add] at hx163_1 | skip); (first | simp only [add_plain] at hx163_2 | simp only [add_at] at hx163_2 | simp only [Addr.add, Nat.zero_add] at hx163_2 | skip); replace p163 := eq_true p163; replace q163 := eq_true q163; obtain ⟨hcz19_0, hcz19_1, hcz19_2, hfz19_0, hfz19_1, hfz19_2⟩ := cz3 BK160)); try go_wp2_with (first | ((with_reducible refine gate_dst (N := 6) rfl ?_); refine bx 6 #[.int .i64 0, .int .i64 0, .int .i64 0] 53 ?_; intro gb160 hg w10 hbox hb; replace HO_159003 := uD (Kd.Q_below (Kd.Q_elderB (pq HO_159003) gb160 (Nat.le_of_eq hg.symm)) hb); have BK160 := uD (hbox); have GW160 := uD ((by rw [hg]; exact (by first | exact HK.out.1 | exact (show Kept w _ (fun k_ => P0_3_ k_) from by repeat (first | (with_reducible first | exact HK.out | apply Kept.alloc | apply Kept.drewN | apply Kept.drew | refine Kept.setCell ?_ (.inr GW158.out) _) | exact HK.out)).1) : w.heap.size ≤ gb160)); replace HK := uD (Kept.below (S := (fun k_ => P0_3_ k_)) (by repeat (first | (with_reducible first | exact HK.out | apply Kept.alloc | apply Kept.drewN | apply Kept.drew | refine Kept.setCell ?_ (.inr GW158.out) _) | exact HK.out)) hb); have GE160 := uD ((by rw [hg]; exact (uN (pb HB)) : w0.heap.size ≤ gb160)); replace HB := uD (uO (pb HB) hb); have NB158_160 := uD ((by rw [hg]; exact Nat.ne_of_lt (blk_lt (pk BK158)) : gb158 ≠ gb160)); have NB160_158 := uD ((by rw [hg]; exact Nat.ne_of_gt (blk_lt (pk BK158)) : gb160 ≠ gb158)); replace BK158 := uD (blk_below (pk BK158) hb); clear hb hbox hg; have hnb11 := NB160_158.out; have hnc11 := NB158_160.out; obtain ⟨hcz12_0, hcz12_1, hcz12_2, hfz12_0, hfz12_1, hfz12_2⟩ := cz3 BK160) | ((with_reducible refine gate_store (t := 53) (p := 6) rfl ?_); (try (rw [drewN_self w10]; generalize hq_ : World.drewN w10 _ = w10; have n0_ := uD (Kd.Q_at hq_ HO_159003.out); have n1_ := uD (blk_at hq_ BK158.out); have n2_ := uD (blk_at hq_ BK160.out); have n3_ := uD (kept_at hq_ HK.out); have n4_ := uD (below_at hq_ HB.out); clear hq_ HO_159003 BK158 BK160 HK HB; have HO_159003 := n0_; have BK158 := n1_; have BK160 := n2_; have HK := n3_; have HB := n4_; clear n0_ n1_ n2_ n3_ n4_)); refine store_event (t := 53) (p := 6) (v := ?vo_w13) (w1 := (((w10.setCell ⟨gb160, 0, none⟩ (.int .i64 ((rd_T53 x159003_1 x12_1).f0))).setCell ⟨gb160, 1, none⟩ (.int .i64 ((rd_T53 x159003_1 x12_1).f1))).setCell ⟨gb160, 2, none⟩ (.int .i64 ((rd_T53 x159003_1 x12_1).f2)))) ?hg ?ho ?hn ?hr ?_; (case ho => rfl); (case hg => rfl); (case hn => rfl); (case hr => first | (go_simp; done) | (go_simp; rfl)); intro w13 hw; have n0_ : Aside0 (Kd.Q k53 53 w13 w0.heap.size (fun k_ => (P0_3_ k_ ∨ w.heap.size ≤ k_) ∧ k_ ≠ gb160) (.slice (some ad159) x159003_1.length co2) x159003_1) := ⟨(by rw [hw]; exact (by (with_reducible repeat (first | apply Kd.Q_alloc | apply Kd.Q_drewN | apply Kd.Q_drew)); exact Kd.Q_mono (Kd.Q_far (p := ⟨gb160, 2, none⟩) (Kd.Q_far (p := ⟨gb160, 1, none⟩) (Kd.Q_far (p := ⟨gb160, 0, none⟩) (Kd.Q_mono HO_159003.out (fun k_ hk => (⟨hk, hk.2⟩ : _ ∧ k_ ≠ gb160))) (fun _ hk => hk.2) (.int .i64 ((rd_T53 x159003_1 x12_1).f0))) (fun _ hk => hk.2) (.int .i64 ((rd_T53 x159003_1 x12_1).f1))) (fun _ hk => hk.2) (.int .i64 ((rd_T53 x159003_1 x12_1).f2))) (fun _ hk => ⟨hk.1.1, hk.1.2⟩)))⟩; have n1_ : Aside0 (w13.heap[gb158]? = some (.cells #[.int .i64 a0_0, .int .i64 a0_1, .bool a0_2, .slice (some ad159) x159003_1.length co2] 29 (0, 0))) := ⟨(by rw [hw]; exact (by exact ps BK158))⟩; have n2_ : Aside0 (w13.heap[gb160]? = some (.cells #[.int .i64 ((rd_T53 x159003_1 x12_1).f0), .int .i64 ((rd_T53 x159003_1 x12_1).f1), .int .i64 ((rd_T53 x159003_1 x12_1).f2)] 53 (0, 0))) := ⟨(by rw [hw]; exact (by (with_reducible repeat first|apply uH|apply uJ|apply uG); refine uP (cs := #[.int .i64 ((rd_T53 x159003_1 x12_1).f0), .int .i64 ((rd_T53 x159003_1 x12_1).f1), .int .i64 0]) ?_ 2 _ rfl; (with_reducible repeat first|apply uH|apply uJ|apply uG); refine uP (cs := #[.int .i64 ((rd_T53 x159003_1 x12_1).f0), .int .i64 0, .int .i64 0]) ?_ 1 _ rfl; (with_reducible repeat first|apply uH|apply uJ|apply uG); refine uP (cs := #[.int .i64 0, .int .i64 0, .int .i64 0]) ?_ 0 _ rfl; (with_reducible repeat first|apply uH|apply uJ|apply uG); exact BK160.out))⟩; have n3_ : Aside0 (Kept w w13 (fun k_ => P0_3_ k_)) := ⟨(by rw [hw]; exact (by repeat (first | (with_reducible first | exact HK.out | apply Kept.alloc | apply Kept.drewN | apply Kept.drew | refine Kept.setCell ?_ (.inr GW158.out) _ | refine Kept.setCell ?_ (.inr GW160.out) _) | exact HK.out)))⟩; have n4_ : Aside0 (Below w0.heap.size w0 w13) := ⟨(by rw [hw]; exact (pb HB))⟩; clear hw; clear HO_159003; clear BK158; clear BK160; clear HK; clear HB; have HO_159003 := n0_; have BK158 := n1_; have BK160 := n2_; have HK := n3_; have HB := n4_; clear n0_ n1_ n2_ n3_ n4_; obtain ⟨hcz14_0, hcz14_1, hcz14_2, hfz14_0, hfz14_1, hfz14_2⟩ := cz3 BK160; obtain ⟨hcz15_0, hcz15_1, hcz15_2, hcz15_3, hfz15_0, hfz15_1, hfz15_2, hfz15_3⟩ := cz4 BK158; have p161 : 0 ≤ (x12_1 : Int) := of_decide_eq_true (by first | (with_reducible assumption) | assumption); have q161 : x12_1 < (x159003_1.length : Int) := of_decide_eq_true (by first | (with_reducible assumption) | assumption); obtain ⟨ad161, e161, hx161_0, hx161_1, hx161_2⟩ := at_T53 (Kd.Q_reads' HO_159003.out).2.2 x12_1 p161 q161; obtain rfl : ad159 = ad161 := (by injection e161); replace p161 := eq_true p161; replace q161 := eq_true q161; have p9 : 0 ≤ (x12_1 : Int) := of_decide_eq_true (by first | (with_reducible assumption) | assumption); have q9 : (x12_1 : Int) < ((x159003_1.length : Int) : Int) := of_decide_eq_true (by first | (with_reducible assumption) | assumption); obtain ⟨go9, oo9, co9, eo9, gb9, gl9, cl9, HG9⟩ := Kd.Q_form HO_159003.out (by omega); (first | cases eo9 | (injection eo9 with ea_ en_ ec_; (first | subst ea_ | (injection ea_ with ea_; subst ea_)); subst ec_; clear en_)); have GB9 := uD gb9; have GG9 := uD HG9; clear gb9 gl9 HG9; have HMgo9 := uD (show (P0_3_ go9 ∨ w.heap.size ≤ go9) from (HO_159003.out.1 _ rfl).1); (first | simp only [add_at] at hx159_0 | skip); (first | simp only [add_at] at hx159_1 | skip); (first | simp only [add_at] at hx159_2 | skip); (first | simp only [add_at] at hx161_0 | skip); (first | simp only [add_at] at hx161_1 | skip); (first | simp only [add_at] at hx161_2 | skip); obtain ⟨ce9, hcl9, hM9, hcc9, hfr9⟩ := Kd.Q_elem HO_159003.out z53 (x12_1 : Int) p9 q9; obtain rfl := k53_openM hM9; have hx9_0 : w13.cell? ⟨go9, oo9 + (x12_1 : Int).toNat * 3, none⟩ = some (.int .i64 ((rd_T53 x159003_1 x12_1).f0)) := hcc9 0 _ rfl; have hx9_1 : w13.cell? ⟨go9, oo9 + (x12_1 : Int).toNat * 3 + 1, none⟩ = some (.int .i64 ((rd_T53 x159003_1 x12_1).f1)) := hcc9 1 _ rfl; have hx9_2 : w13.cell? ⟨go9, oo9 + (x12_1 : Int).toNat * 3 + 2, none⟩ = some (.int .i64 ((rd_T53 x159003_1 x12_1).f2)) := hcc9 2 _ rfl; have hf9_0 : w13.frozen? ⟨go9, oo9 + (x12_1 : Int).toNat * 3, none⟩ = false := hfr9 0; have hf9_1 : w13.frozen? ⟨go9, oo9 + (x12_1 : Int).toNat * 3 + 1, none⟩ = false := hfr9 1; have hf9_2 : w13.frozen? ⟨go9, oo9 + (x12_1 : Int).toNat * 3 + 2, none⟩ = false := hfr9 2; clear hcl9 hcc9 hfr9 hM9; replace p9 := eq_true p9; replace q9 := eq_true q9; have HX16 := uD (show Kd.Q k53 53 w13 w0.heap.size (fun k_ => (P0_3_ k_ ∨ w.heap.size ≤ k_) ∧ k_ ≠ gb160) (.slice (some ⟨go9, oo9, none⟩) x159003_1.length co2) x159003_1 from (pq HO_159003)); obtain ⟨ce16, hcl16, hM16, hcc16, hfr16⟩ := Kd.Q_elem HX16.out z53 (x12_1 : Int) (of_decide_eq_true (by first | (with_reducible assumption) | assumption)) (by have h_ : (x12_1 : Int) < ((x159003_1.length : Int) : Int) := of_decide_eq_true (by first | (with_reducible assumption) | assumption); first | exact h_ | (have e_ := (Kd.Q_reads' HO_159003.out).1; omega) | simpa using h_); obtain rfl := k53_openM hM16; have HP16 := Kd.Q_seg HX16.out (x12_1 : Int) (of_decide_eq_true (by first | (with_reducible assumption) | assumption)) (by have h_ : (x12_1 : Int) < ((x159003_1.length : Int) : Int) := of_decide_eq_true (by first | (with_reducible assumption) | assumption); first | exact h_ | (have e_ := (Kd.Q_reads' HO_159003.out).1; omega) | simpa using h_) (seg := [.int .i64 (wrap64 (((rd_T53 x159003_1 x12_1).f1) + 1))]) (j := 1) hcl16 hcc16 (show 2 ≤ 3 from by decide) (x' := (⟨(rd_T53 x159003_1 x12_1).f0, wrap64 (((rd_T53 x159003_1 x12_1).f1) + 1), (rd_T53 x159003_1 x12_1).f2⟩ : S53)) (k53_mkM _ _ _ (⟨(rd_T53 x159003_1 x12_1).f0, wrap64 (((rd_T53 x159003_1 x12_1).f1) + 1), (rd_T53 x159003_1 x12_1).f2⟩ : S53) ) (fun _ hk => hk); have hx16_1 := hcc16 1 _ rfl; (try simp only [show (k53).sz = 3 from rfl, Nat.mul_one, Nat.add_zero] at hx16_1); have hf16_1 := hfr16 1; (try simp only [show (k53).sz = 3 from rfl, Nat.mul_one, Nat.add_zero] at hf16_1); clear hcl16 hcc16 hfr16 hM16) | ((with_reducible refine gate_store (t := 3) (p := 29) rfl ?_); (try (rw [drewN_self w13]; generalize hq_ : World.drewN w13 _ = w13; have n0_ := uD (Kd.Q_at hq_ HO_159003.out); have n1_ := uD (blk_at hq_ BK158.out); have n2_ := uD (blk_at hq_ BK160.out); have n3_ := uD (kept_at hq_ HK.out); have n4_ := uD (below_at hq_ HB.out); clear hq_ HO_159003 BK158 BK160 HK HB; have HO_159003 := n0_; have BK158 := n1_; have BK160 := n2_; have HK := n3_; have HB := n4_; clear n0_ n1_ n2_ n3_ n4_; (try (have HX16 := uD (show Kd.Q k53 53 w13 w0.heap.size (fun k_ => (P0_3_ k_ ∨ w.heap.size ≤ k_) ∧ k_ ≠ gb160) (.slice (some ⟨go9, oo9, none⟩) x159003_1.length co2) x159003_1 from (pq HO_159003)))); (try (obtain ⟨ce16, hcl16, hM16, hcc16, hfr16⟩ := Kd.Q_elem HX16.out z53 (x12_1 : Int) (of_decide_eq_true (by first | (with_reducible assumption) | assumption)) (by have h_ : (x12_1 : Int) < ((x159003_1.length : Int) : Int) := of_decide_eq_true (by first | (with_reducible assumption) | assumption); first | exact h_ | (have e_ := (Kd.Q_reads' HO_159003.out).1; omega) | simpa using h_))); (try (obtain rfl := k53_openM hM16)); (try (have HP16 := Kd.Q_seg HX16.out (x12_1 : Int) (of_decide_eq_true (by first | (with_reducible assumption) | assumption)) (by have h_ : (x12_1 : Int) < ((x159003_1.length : Int) : Int) := of_decide_eq_true (by first | (with_reducible assumption) | assumption); first | exact h_ | (have e_ := (Kd.Q_reads' HO_159003.out).1; omega) | simpa using h_) (seg := [.int .i64 (wrap64 (((rd_T53 x159003_1 x12_1).f1) + 1))]) (j := 1) hcl16 hcc16 (show 2 ≤ 3 from by decide) (x' := (⟨(rd_T53 x159003_1 x12_1).f0, wrap64 (((rd_T53 x159003_1 x12_1).f1) + 1), (rd_T53 x159003_1 x12_1).f2⟩ : S53)) (k53_mkM _ _ _ (⟨(rd_T53 x159003_1 x12_1).f0, wrap64 (((rd_T53 x159003_1 x12_1).f1) + 1), (rd_T53 x159003_1 x12_1).f2⟩ : S53) ) (fun _ hk => hk))); (try (have hx16_1 := hcc16 1 _ rfl)); (try (try simp only [show (k53).sz = 3 from rfl, Nat.mul_one, Nat.add_zero] at hx16_1)); (try (have hf16_1 := hfr16 1)); (try (try simp only [show (k53).sz = 3 from rfl, Nat.mul_one, Nat.add_zero] at hf16_1)); (try (clear hcl16 hcc16 hfr16 hM16)))); refine store_event (t := 3) (p := 29) (v := ?vo_w17) (w1 := (w13.setCell ⟨go9, oo9 + (x12_1 : Int).toNat * 3 + 1, none⟩ (.int .i64 (wrap64 (((rd_T53 x159003_1 x12_1).f1) + 1))))) ?hg ?ho ?hn ?hr ?_; (case ho => rfl); (case hg => rfl); (case hn => rfl); (case hr => first | (go_simp; done) | (go_simp; rfl)); intro w17 hw; have hg : w13.grownBy w17 (some go9) := (by rw [hw]; exact HP16.2); have hp_ : Kd.Q k53 53 w17 w0.heap.size (fun k_ => (P0_3_ k_ ∨ w.heap.size ≤ k_) ∧ k_ ≠ gb160) (.slice (some ⟨go9, oo9, none⟩) x159003_1.length co2) y162 := (by rw [hw, Ny162.out]; exact HP16.1); clear HP16; replace BK158 := uD (blk_grown (pk BK158) hg (Kd.Q_ne HO_159003.out BK158.out (by decide))); replace BK160 := uD (blk_grown (pk BK160) hg (Kd.Q_away HO_159003.out (fun _ hk => hk.2))); replace HB := uD ((by rw [hw]; exact uM (HB.out) GB9.out : Below w0.heap.size w0 w17)); replace HK := uD (Kept.of_grown (S := (fun k_ => P0_3_ k_)) hg (by repeat (first | (with_reducible first | exact HK.out | apply Kept.alloc | apply Kept.drewN | apply Kept.drew | refine Kept.setCell ?_ (.inr GW158.out) _ | refine Kept.setCell ?_ (.inr GW160.out) _) | exact HK.out)) (fun k_ e_ => (HO_159003.out.1 k_ e_).1)); replace HO_159003 := uD (hp_); clear hg hw hp_; obtain ⟨hcz18_0, hcz18_1, hcz18_2, hcz18_3, hfz18_0, hfz18_1, hfz18_2, hfz18_3⟩ := cz4 BK158; have p163 : 0 ≤ (x12_1 : Int) := of_decide_eq_true (by first | (with_reducible assumption) | assumption); have q163 : x12_1 < (y162.length : Int) := (by have h_ : (x12_1 : Int) < ((x159003_1.length : Int) : Int) := of_decide_eq_true (by first | (with_reducible assumption) | assumption); first | (have e_ := (Kd.Q_reads' HO_159003.out).1; omega) | simpa only [Ny162.out, List.length_set] using h_); have ql163 : ((x12_1 : Int) < ((x159003_1.length : Int) : Int)) = True := eq_true (of_decide_eq_true (by first | (with_reducible assumption) | assumption)); obtain ⟨ad163, e163, hx163_0, hx163_1, hx163_2⟩ := at_T53 (Kd.Q_reads' HO_159003.out).2.2 x12_1 p163 q163; obtain rfl : (⟨go9, oo9, none⟩ : Addr) = ad163 := (by injection e163); (first | simp only [add_plain] at hx163_0 | simp only [add_at] at hx163_0 | simp only [Addr.add, Nat.zero_add] at hx163_0 | skip); (first | simp only [add_plain] at hx163_1 | simp only [add_at] at hx163_1 | simp only [Addr.add, Nat.zero_add] at hx163_1 | skip); (first | simp only [add_plain] at hx163_2 | simp only [add_at] at hx163_2 | simp only [Addr.add, Nat.zero_add] at hx163_2 | skip); replace p163 := eq_true p163; replace q163 := eq_true q163; obtain ⟨hcz19_0, hcz19_1, hcz19_2, hfz19_0, hfz19_1, hfz19_2⟩ := cz3 BK160)))
       (try simp only [← hl159003_1])
       go_roundg k1
       case measure => have := HK1.out; omega
       case rel => exact ⟨(wrap64 (x3_1 + 1)), (wrap64 ((wrap64 (((rd_T53 y162 x12_1).f1) - ((rd_T53 x159003_1 x12_1).f2))) - a0_1)), (wrap64 (x12_1 + 1)), (y162), (by first | rfl | (simp; done) | (simp [*]; done)), (by first | rfl | (simp; done) | (simp [*]; done)), (by first | rfl | (simp; done) | (simp [*]; done)), H', ⟨by have := HK1.out; omega⟩, ⟨by (try simp only [hl159003_1]); (with_reducible repeat (first | apply Kd.Q_alloc | apply Kd.Q_drewN | apply Kd.Q_drew)); exact Kd.Q_mono HO_159003.out (fun _ hk => hk.1)⟩, ⟨by (try simp only [hl159003_1]); (with_reducible repeat first|apply uH|apply uJ|apply uG); exact BK158.out⟩, ⟨by repeat (first | (with_reducible first | exact HK.out | apply Kept.alloc | apply Kept.drewN | apply Kept.drew | refine Kept.setCell ?_ (.inr GW158.out) _ | refine Kept.setCell ?_ (.inr GW160.out) _) | exact HK.out)⟩, ⟨pb HB⟩⟩
      ·rw [if_neg c8] at H
       have c8b0 : decide (((rd_T53 x159003_1 x12_1).f1) < x4_1) = false := decide_eq_false c8
       clear c8
       have H' := uD H
       clear H
       have p159 : 0 ≤ (x12_1 : Int) := of_decide_eq_true (by first | (with_reducible assumption) | assumption)
       have q159 : x12_1 < (x159003_1.length : Int) := of_decide_eq_true (by first | (with_reducible assumption) | assumption)
       obtain ⟨ad159, e159, hx159_0, hx159_1, hx159_2⟩ := at_T53 (Kd.Q_reads' HO_159003.out).2.2 x12_1 p159 q159
       cases e159
       replace p159 := eq_true p159
       replace q159 := eq_true q159
       go_wp2_with (first | ((with_reducible refine gate_dst (N := 6) rfl ?_); refine bx 6 #[.int .i64 0, .int .i64 0, .int .i64 0] 53 ?_; intro gb160 hg w20 hbox hb; replace HO_159003 := uD (Kd.Q_below (Kd.Q_elderB (pq HO_159003) gb160 (Nat.le_of_eq hg.symm)) hb); have BK160 := uD (hbox); have GW160 := uD ((by rw [hg]; exact (by first | exact HK.out.1 | exact (show Kept w _ (fun k_ => P0_3_ k_) from by repeat (first | (with_reducible first | exact HK.out | apply Kept.alloc | apply Kept.drewN | apply Kept.drew | refine Kept.setCell ?_ (.inr GW158.out) _) | exact HK.out)).1) : w.heap.size ≤ gb160)); replace HK := uD (Kept.below (S := (fun k_ => P0_3_ k_)) (by repeat (first | (with_reducible first | exact HK.out | apply Kept.alloc | apply Kept.drewN | apply Kept.drew | refine Kept.setCell ?_ (.inr GW158.out) _) | exact HK.out)) hb); have GE160 := uD ((by rw [hg]; exact (uN (pb HB)) : w0.heap.size ≤ gb160)); replace HB := uD (uO (pb HB) hb); have NB158_160 := uD ((by rw [hg]; exact Nat.ne_of_lt (blk_lt (pk BK158)) : gb158 ≠ gb160)); have NB160_158 := uD ((by rw [hg]; exact Nat.ne_of_gt (blk_lt (pk BK158)) : gb160 ≠ gb158)); replace BK158 := uD (blk_below (pk BK158) hb); clear hb hbox hg; have hnb21 := NB160_158.out; have hnc21 := NB158_160.out; obtain ⟨hcz22_0, hcz22_1, hcz22_2, hfz22_0, hfz22_1, hfz22_2⟩ := cz3 BK160; obtain ⟨hcz23_0, hcz23_1, hcz23_2, hcz23_3, hfz23_0, hfz23_1, hfz23_2, hfz23_3⟩ := cz4 BK158; have p164 : 0 ≤ (x12_1 : Int) := of_decide_eq_true (by first | (with_reducible assumption) | assumption); have q164 : x12_1 < (x159003_1.length : Int) := of_decide_eq_true (by first | (with_reducible assumption) | assumption); obtain ⟨ad164, e164, hx164_0, hx164_1, hx164_2⟩ := at_T53 (Kd.Q_reads' HO_159003.out).2.2 x12_1 p164 q164; obtain rfl : ad159 = ad164 := (by injection e164); have hn164_0 : ad159.block ≠ gb160 := Kd.own_blk (Kd.Q_away HO_159003.out (fun _ hk => hk.2)); have hn164_1 : ad159.block ≠ gb160 := Kd.own_blk (Kd.Q_away HO_159003.out (fun _ hk => hk.2)); have hn164_2 : ad159.block ≠ gb160 := Kd.own_blk (Kd.Q_away HO_159003.out (fun _ hk => hk.2)); replace hx164_0 := (cell_far (p := ⟨gb160, 0, none⟩) (by first | (rw [add_block]; exact hn164_0) | (show (Addr.add _ _).block ≠ _; rw [add_block]; exact hn164_0) | exact hn164_0) (.int .i64 ((rd_T53 x159003_1 x12_1).f0))).trans hx164_0; replace hx164_1 := (cell_far (p := ⟨gb160, 0, none⟩) (by first | (rw [add_block]; exact hn164_0) | (show (Addr.add _ _).block ≠ _; rw [add_block]; exact hn164_0) | exact hn164_0) (.int .i64 ((rd_T53 x159003_1 x12_1).f0))).trans hx164_1; replace hx164_2 := (cell_far (p := ⟨gb160, 0, none⟩) (by first | (rw [add_block]; exact hn164_0) | (show (Addr.add _ _).block ≠ _; rw [add_block]; exact hn164_0) | exact hn164_0) (.int .i64 ((rd_T53 x159003_1 x12_1).f0))).trans hx164_2; replace hx164_0 := (cell_far (p := ⟨gb160, 1, none⟩) (by first | (rw [add_block]; exact hn164_1) | (show (Addr.add _ _).block ≠ _; rw [add_block]; exact hn164_1) | exact hn164_1) (.int .i64 ((rd_T53 x159003_1 x12_1).f1))).trans hx164_0; replace hx164_1 := (cell_far (p := ⟨gb160, 1, none⟩) (by first | (rw [add_block]; exact hn164_1) | (show (Addr.add _ _).block ≠ _; rw [add_block]; exact hn164_1) | exact hn164_1) (.int .i64 ((rd_T53 x159003_1 x12_1).f1))).trans hx164_1; replace hx164_2 := (cell_far (p := ⟨gb160, 1, none⟩) (by first | (rw [add_block]; exact hn164_1) | (show (Addr.add _ _).block ≠ _; rw [add_block]; exact hn164_1) | exact hn164_1) (.int .i64 ((rd_T53 x159003_1 x12_1).f1))).trans hx164_2; replace hx164_0 := (cell_far (p := ⟨gb160, 2, none⟩) (by first | (rw [add_block]; exact hn164_2) | (show (Addr.add _ _).block ≠ _; rw [add_block]; exact hn164_2) | exact hn164_2) (.int .i64 ((rd_T53 x159003_1 x12_1).f2))).trans hx164_0; replace hx164_1 := (cell_far (p := ⟨gb160, 2, none⟩) (by first | (rw [add_block]; exact hn164_2) | (show (Addr.add _ _).block ≠ _; rw [add_block]; exact hn164_2) | exact hn164_2) (.int .i64 ((rd_T53 x159003_1 x12_1).f2))).trans hx164_1; replace hx164_2 := (cell_far (p := ⟨gb160, 2, none⟩) (by first | (rw [add_block]; exact hn164_2) | (show (Addr.add _ _).block ≠ _; rw [add_block]; exact hn164_2) | exact hn164_2) (.int .i64 ((rd_T53 x159003_1 x12_1).f2))).trans hx164_2; (try have hy164_0 := fun (n_ : Nat) => (show (((((w20.drewN n_).setCell ⟨gb160, 0, none⟩ (.int .i64 ((rd_T53 x159003_1 x12_1).f0))).setCell ⟨gb160, 1, none⟩ (.int .i64 ((rd_T53 x159003_1 x12_1).f1))).setCell ⟨gb160, 2, none⟩ (.int .i64 ((rd_T53 x159003_1 x12_1).f2)))).cell? _ = some _ from hx164_0)); (try have hy164_1 := fun (n_ : Nat) => (show (((((w20.drewN n_).setCell ⟨gb160, 0, none⟩ (.int .i64 ((rd_T53 x159003_1 x12_1).f0))).setCell ⟨gb160, 1, none⟩ (.int .i64 ((rd_T53 x159003_1 x12_1).f1))).setCell ⟨gb160, 2, none⟩ (.int .i64 ((rd_T53 x159003_1 x12_1).f2)))).cell? _ = some _ from hx164_1)); (try have hy164_2 := fun (n_ : Nat) => (show (((((w20.drewN n_).setCell ⟨gb160, 0, none⟩ (.int .i64 ((rd_T53 x159003_1 x12_1).f0))).setCell ⟨gb160, 1, none⟩ (.int .i64 ((rd_T53 x159003_1 x12_1).f1))).setCell ⟨gb160, 2, none⟩ (.int .i64 ((rd_T53 x159003_1 x12_1).f2)))).cell? _ = some _ from hx164_2)); clear hn164_0; clear hn164_1; clear hn164_2; replace p164 := eq_true p164; replace q164 := eq_true q164))
       repeat (go_quiet (first | ((with_reducible refine gate_dst (N := 6) rfl ?_); refine bx 6 #[.int .i64 0, .int .i64 0, .int .i64 0] 53 ?_; intro gb160 hg w20 hbox hb; replace HO_159003 := uD (Kd.Q_below (Kd.Q_elderB (pq HO_159003) gb160 (Nat.le_of_eq hg.symm)) hb); have BK160 := uD (hbox); have GW160 := uD ((by rw [hg]; exact (by first | exact HK.out.1 | exact (show Kept w _ (fun k_ => P0_3_ k_) from by repeat (first | (with_reducible first | exact HK.out | apply Kept.alloc | apply Kept.drewN | apply Kept.drew | refine Kept.setCell ?_ (.inr GW158.out) _) | exact HK.out)).1) : w.heap.size ≤ gb160)); replace HK := uD (Kept.below (S := (fun k_ => P0_3_ k_)) (by repeat (first | (with_reducible first | exact HK.out | apply Kept.alloc | apply Kept.drewN | apply Kept.drew | refine Kept.setCell ?_ (.inr GW158.out) _) | exact HK.out)) hb); have GE160 := uD ((by rw [hg]; exact (uN (pb HB)) : w0.heap.size ≤ gb160)); replace HB := uD (uO (pb HB) hb); have NB158_160 := uD ((by rw [hg]; exact Nat.ne_of_lt (blk_lt (pk BK158)) : gb158 ≠ gb160)); have NB160_158 := uD ((by rw [hg]; exact Nat.ne_of_gt (blk_lt (pk BK158)) : gb160 ≠ gb158)); replace BK158 := uD (blk_below (pk BK158) hb); clear hb hbox hg; have hnb21 := NB160_158.out; have hnc21 := NB158_160.out; obtain ⟨hcz22_0, hcz22_1, hcz22_2, hfz22_0, hfz22_1, hfz22_2⟩ := cz3 BK160; obtain ⟨hcz23_0, hcz23_1, hcz23_2, hcz23_3, hfz23_0, hfz23_1, hfz23_2, hfz23_3⟩ := cz4 BK158; have p164 : 0 ≤ (x12_1 : Int) := of_decide_eq_true (by first | (with_reducible assumption) | assumption); have q164 : x12_1 < (x159003_1.length : Int) := of_decide_eq_true (by first | (with_reducible assumption) | assumption); obtain ⟨ad164, e164, hx164_0, hx164_1, hx164_2⟩ := at_T53 (Kd.Q_reads' HO_159003.out).2.2 x12_1 p164 q164; obtain rfl : ad159 = ad164 := (by injection e164); have hn164_0 : ad159.block ≠ gb160 := Kd.own_blk (Kd.Q_away HO_159003.out (fun _ hk => hk.2)); have hn164_1 : ad159.block ≠ gb160 := Kd.own_blk (Kd.Q_away HO_159003.out (fun _ hk => hk.2)); have hn164_2 : ad159.block ≠ gb160 := Kd.own_blk (Kd.Q_away HO_159003.out (fun _ hk => hk.2)); replace hx164_0 := (cell_far (p := ⟨gb160, 0, none⟩) (by first | (rw [add_block]; exact hn164_0) | (show (Addr.add _ _).block ≠ _; rw [add_block]; exact hn164_0) | exact hn164_0) (.int .i64 ((rd_T53 x159003_1 x12_1).f0))).trans hx164_0; replace hx164_1 := (cell_far (p := ⟨gb160, 0, none⟩) (by first | (rw [add_block]; exact hn164_0) | (show (Addr.add _ _).block ≠ _; rw [add_block]; exact hn164_0) | exact hn164_0) (.int .i64 ((rd_T53 x159003_1 x12_1).f0))).trans hx164_1; replace hx164_2 := (cell_far (p := ⟨gb160, 0, none⟩) (by first | (rw [add_block]; exact hn164_0) | (show (Addr.add _ _).block ≠ _; rw [add_block]; exact hn164_0) | exact hn164_0) (.int .i64 ((rd_T53 x159003_1 x12_1).f0))).trans hx164_2; replace hx164_0 := (cell_far (p := ⟨gb160, 1, none⟩) (by first | (rw [add_block]; exact hn164_1) | (show (Addr.add _ _).block ≠ _; rw [add_block]; exact hn164_1) | exact hn164_1) (.int .i64 ((rd_T53 x159003_1 x12_1).f1))).trans hx164_0; replace hx164_1 := (cell_far (p := ⟨gb160, 1, none⟩) (by first | (rw [add_block]; exact hn164_1) | (show (Addr.add _ _).block ≠ _; rw [add_block]; exact hn164_1) | exact hn164_1) (.int .i64 ((rd_T53 x159003_1 x12_1).f1))).trans hx164_1; replace hx164_2 := (cell_far (p := ⟨gb160, 1, none⟩) (by first | (rw [add_block]; exact hn164_1) | (show (Addr.add _ _).block ≠ _; rw [add_block]; exact hn164_1) | exact hn164_1) (.int .i64 ((rd_T53 x159003_1 x12_1).f1))).trans hx164_2; replace hx164_0 := (cell_far (p := ⟨gb160, 2, none⟩) (by first | (rw [add_block]; exact hn164_2) | (show (Addr.add _ _).block ≠ _; rw [add_block]; exact hn164_2) | exact hn164_2) (.int .i64 ((rd_T53 x159003_1 x12_1).f2))).trans hx164_0; replace hx164_1 := (cell_far (p := ⟨gb160, 2, none⟩) (by first | (rw [add_block]; exact hn164_2) | (show (Addr.add _ _).block ≠ _; rw [add_block]; exact hn164_2) | exact hn164_2) (.int .i64 ((rd_T53 x159003_1 x12_1).f2))).trans hx164_1; replace hx164_2 := (cell_far (p := ⟨gb160, 2, none⟩) (by first | (rw [add_block]; exact hn164_2) | (show (Addr.add _ _).block ≠ _; rw [add_block]; exact hn164_2) | exact hn164_2) (.int .i64 ((rd_T53 x159003_1 x12_1).f2))).trans hx164_2; (try have hy164_0 := fun (n_ : Nat) => (show (((((w20.drewN n_).setCell ⟨gb160, 0, none⟩ (.int .i64 ((rd_T53 x159003_1 x12_1).f0))).setCell ⟨gb160, 1, none⟩ (.int .i64 ((rd_T53 x159003_1 x12_1).f1))).setCell ⟨gb160, 2, none⟩ (.int .i64 ((rd_T53 x159003_1 x12_1).f2)))).cell? _ = some _ from hx164_0)); (try have hy164_1 := fun (n_ : Nat) => (show (((((w20.drewN n_).setCell ⟨gb160, 0, none⟩ (.int .i64 ((rd_T53 x159003_1 x12_1).f0))).setCell ⟨gb160, 1, none⟩ (.int .i64 ((rd_T53 x159003_1 x12_1).f1))).setCell ⟨gb160, 2, none⟩ (.int .i64 ((rd_T53 x159003_1 x12_1).f2)))).cell? _ = some _ from hx164_1)); (try have hy164_2 := fun (n_ : Nat) => (show (((((w20.drewN n_).setCell ⟨gb160, 0, none⟩ (.int .i64 ((rd_T53 x159003_1 x12_1).f0))).setCell ⟨gb160, 1, none⟩ (.int .i64 ((rd_T53 x159003_1 x12_1).f1))).setCell ⟨gb160, 2, none⟩ (.int .i64 ((rd_T53 x159003_1 x12_1).f2)))).cell? _ = some _ from hx164_2)); clear hn164_0; clear hn164_1; clear hn164_2; replace p164 := eq_true p164; replace q164 := eq_true q164)); try go_wp2_with (first | ((with_reducible refine gate_dst (N := 6) rfl ?_); refine bx 6 #[.int .i64 0, .int .i64 0, .int .i64 0] 53 ?_; intro gb160 hg w20 hbox hb; replace HO_159003 := uD (Kd.Q_below (Kd.Q_elderB (pq HO_159003) gb160 (Nat.le_of_eq hg.symm)) hb); have BK160 := uD (hbox); have GW160 := uD ((by rw [hg]; exact (by first | exact HK.out.1 | exact (show Kept w _ (fun k_ => P0_3_ k_) from by repeat (first | (with_reducible first | exact HK.out | apply Kept.alloc | apply Kept.drewN | apply Kept.drew | refine Kept.setCell ?_ (.inr GW158.out) _) | exact HK.out)).1) : w.heap.size ≤ gb160)); replace HK := uD (Kept.below (S := (fun k_ => P0_3_ k_)) (by repeat (first | (with_reducible first | exact HK.out | apply Kept.alloc | apply Kept.drewN | apply Kept.drew | refine Kept.setCell ?_ (.inr GW158.out) _) | exact HK.out)) hb); have GE160 := uD ((by rw [hg]; exact (uN (pb HB)) : w0.heap.size ≤ gb160)); replace HB := uD (uO (pb HB) hb); have NB158_160 := uD ((by rw [hg]; exact Nat.ne_of_lt (blk_lt (pk BK158)) : gb158 ≠ gb160)); have NB160_158 := uD ((by rw [hg]; exact Nat.ne_of_gt (blk_lt (pk BK158)) : gb160 ≠ gb158)); replace BK158 := uD (blk_below (pk BK158) hb); clear hb hbox hg; have hnb21 := NB160_158.out; have hnc21 := NB158_160.out; obtain ⟨hcz22_0, hcz22_1, hcz22_2, hfz22_0, hfz22_1, hfz22_2⟩ := cz3 BK160; obtain ⟨hcz23_0, hcz23_1, hcz23_2, hcz23_3, hfz23_0, hfz23_1, hfz23_2, hfz23_3⟩ := cz4 BK158; have p164 : 0 ≤ (x12_1 : Int) := of_decide_eq_true (by first | (with_reducible assumption) | assumption); have q164 : x12_1 < (x159003_1.length : Int) := of_decide_eq_true (by first | (with_reducible assumption) | assumption); obtain ⟨ad164, e164, hx164_0, hx164_1, hx164_2⟩ := at_T53 (Kd.Q_reads' HO_159003.out).2.2 x12_1 p164 q164; obtain rfl : ad159 = ad164 := (by injection e164); have hn164_0 : ad159.block ≠ gb160 := Kd.own_blk (Kd.Q_away HO_159003.out (fun _ hk => hk.2)); have hn164_1 : ad159.block ≠ gb160 := Kd.own_blk (Kd.Q_away HO_159003.out (fun _ hk => hk.2)); have hn164_2 : ad159.block ≠ gb160 := Kd.own_blk (Kd.Q_away HO_159003.out (fun _ hk => hk.2)); replace hx164_0 := (cell_far (p := ⟨gb160, 0, none⟩) (by first | (rw [add_block]; exact hn164_0) | (show (Addr.add _ _).block ≠ _; rw [add_block]; exact hn164_0) | exact hn164_0) (.int .i64 ((rd_T53 x159003_1 x12_1).f0))).trans hx164_0; replace hx164_1 := (cell_far (p := ⟨gb160, 0, none⟩) (by first | (rw [add_block]; exact hn164_0) | (show (Addr.add _ _).block ≠ _; rw [add_block]; exact hn164_0) | exact hn164_0) (.int .i64 ((rd_T53 x159003_1 x12_1).f0))).trans hx164_1; replace hx164_2 := (cell_far (p := ⟨gb160, 0, none⟩) (by first | (rw [add_block]; exact hn164_0) | (show (Addr.add _ _).block ≠ _; rw [add_block]; exact hn164_0) | exact hn164_0) (.int .i64 ((rd_T53 x159003_1 x12_1).f0))).trans hx164_2; replace hx164_0 := (cell_far (p := ⟨gb160, 1, none⟩) (by first | (rw [add_block]; exact hn164_1) | (show (Addr.add _ _).block ≠ _; rw [add_block]; exact hn164_1) | exact hn164_1) (.int .i64 ((rd_T53 x159003_1 x12_1).f1))).trans hx164_0; replace hx164_1 := (cell_far (p := ⟨gb160, 1, none⟩) (by first | (rw [add_block]; exact hn164_1) | (show (Addr.add _ _).block ≠ _; rw [add_block]; exact hn164_1) | exact hn164_1) (.int .i64 ((rd_T53 x159003_1 x12_1).f1))).trans hx164_1; replace hx164_2 := (cell_far (p := ⟨gb160, 1, none⟩) (by first | (rw [add_block]; exact hn164_1) | (show (Addr.add _ _).block ≠ _; rw [add_block]; exact hn164_1) | exact hn164_1) (.int .i64 ((rd_T53 x159003_1 x12_1).f1))).trans hx164_2; replace hx164_0 := (cell_far (p := ⟨gb160, 2, none⟩) (by first | (rw [add_block]; exact hn164_2) | (show (Addr.add _ _).block ≠ _; rw [add_block]; exact hn164_2) | exact hn164_2) (.int .i64 ((rd_T53 x159003_1 x12_1).f2))).trans hx164_0; replace hx164_1 := (cell_far (p := ⟨gb160, 2, none⟩) (by first | (rw [add_block]; exact hn164_2) | (show (Addr.add _ _).block ≠ _; rw [add_block]; exact hn164_2) | exact hn164_2) (.int .i64 ((rd_T53 x159003_1 x12_1).f2))).trans hx164_1; replace hx164_2 := (cell_far (p := ⟨gb160, 2, none⟩) (by first | (rw [add_block]; exact hn164_2) | (show (Addr.add _ _).block ≠ _; rw [add_block]; exact hn164_2) | exact hn164_2) (.int .i64 ((rd_T53 x159003_1 x12_1).f2))).trans hx164_2; (try have hy164_0 := fun (n_ : Nat) => (show (((((w20.drewN n_).setCell ⟨gb160, 0, none⟩ (.int .i64 ((rd_T53 x159003_1 x12_1).f0))).setCell ⟨gb160, 1, none⟩ (.int .i64 ((rd_T53 x159003_1 x12_1).f1))).setCell ⟨gb160, 2, none⟩ (.int .i64 ((rd_T53 x159003_1 x12_1).f2)))).cell? _ = some _ from hx164_0)); (try have hy164_1 := fun (n_ : Nat) => (show (((((w20.drewN n_).setCell ⟨gb160, 0, none⟩ (.int .i64 ((rd_T53 x159003_1 x12_1).f0))).setCell ⟨gb160, 1, none⟩ (.int .i64 ((rd_T53 x159003_1 x12_1).f1))).setCell ⟨gb160, 2, none⟩ (.int .i64 ((rd_T53 x159003_1 x12_1).f2)))).cell? _ = some _ from hx164_1)); (try have hy164_2 := fun (n_ : Nat) => (show (((((w20.drewN n_).setCell ⟨gb160, 0, none⟩ (.int .i64 ((rd_T53 x159003_1 x12_1).f0))).setCell ⟨gb160, 1, none⟩ (.int .i64 ((rd_T53 x159003_1 x12_1).f1))).setCell ⟨gb160, 2, none⟩ (.int .i64 ((rd_T53 x159003_1 x12_1).f2)))).cell? _ = some _ from hx164_2)); clear hn164_0; clear hn164_1; clear hn164_2; replace p164 := eq_true p164; replace q164 := eq_true q164)))
       (try simp only [← hl159003_1])
       go_roundg k1
       case measure => have := HK1.out; omega
       case rel => exact ⟨(x3_1), (wrap64 ((wrap64 (((rd_T53 x159003_1 x12_1).f1) - ((rd_T53 x159003_1 x12_1).f2))) - a0_1)), (wrap64 (x12_1 + 1)), (x159003_1), (by first | rfl | (simp; done) | (simp [*]; done)), (by first | rfl | (simp; done) | (simp [*]; done)), (by first | rfl | (simp; done) | (simp [*]; done)), H', ⟨by have := HK1.out; omega⟩, ⟨by (try simp only [hl159003_1]); (with_reducible repeat (first | apply Kd.Q_alloc | apply Kd.Q_drewN | apply Kd.Q_drew)); exact Kd.Q_mono (Kd.Q_far (p := ⟨gb160, 2, none⟩) (Kd.Q_far (p := ⟨gb160, 1, none⟩) (Kd.Q_far (p := ⟨gb160, 0, none⟩) (Kd.Q_mono HO_159003.out (fun k_ hk => (⟨hk, hk.2⟩ : _ ∧ k_ ≠ gb160))) (fun _ hk => hk.2) (.int .i64 ((rd_T53 x159003_1 x12_1).f0))) (fun _ hk => hk.2) (.int .i64 ((rd_T53 x159003_1 x12_1).f1))) (fun _ hk => hk.2) (.int .i64 ((rd_T53 x159003_1 x12_1).f2))) (fun _ hk => hk.1.1)⟩, ⟨by (try simp only [hl159003_1]); exact ps BK158⟩, ⟨by repeat (first | (with_reducible first | exact HK.out | apply Kept.alloc | apply Kept.drewN | apply Kept.drew | refine Kept.setCell ?_ (.inr GW158.out) _ | refine Kept.setCell ?_ (.inr GW160.out) _) | exact HK.out)⟩, ⟨pb HB⟩⟩
     ·rw [if_neg c7] at H
      exact absurd H (by simp)
    ·rw [if_neg c6] at H
     exact absurd H (by simp)
   ·rw [if_neg c5] at H
    have c5b0 : decide (x12_1 < (l0_3.length : Int)) = false := decide_eq_false c5
    (try simp only [hl159003_1] at c5b0)
    clear c5
    simp only [Option.some.injEq, Prod.mk.injEq] at H
    obtain ⟨rfl, rfl⟩ := H
    go_wp2
    repeat (go_quiet (fail); try go_wp2)
    go_ret
    exact ⟨by first | rfl | (simp [errW_none, errW_some] <;> rfl) | (simp [*, errW_none, errW_some] <;> rfl), (by first | exact (pq HO_159003) | (simp only [hl159003_1]; exact (pq HO_159003))), pb HB, by repeat (first | (with_reducible first | exact HK.out | apply Kept.alloc | apply Kept.drewN | apply Kept.drew | refine Kept.setCell ?_ (.inr GW158.out) _) | exact HK.out)⟩

/-! ### slices_Clone: function 72 -/
def slices_Clone.f (l0 : List S53) : Option (List S53) := if l0.length < 5864062014805 then some l0 else none
set_option maxHeartbeats 1000000 in
theorem slices_Clone.calls (A0 : Option Addr) (c0 : Nat) (l0 : List S53) (r : List S53) (w : World) (hr0 : Kd.C k53 w A0 l0.length l0) (hc0 : l0.length ≤ c0) (h : slices_Clone.f l0 = some r) :
    Calls Try.prog 72 #[.slice A0 l0.length c0] w fun e w' => ∃ v0_ : Value, e = .returned (v0_) ∧ Kd.R k53 53 w' w.heap.size (fun _ => True) v0_ r ∧ Below w.heap.size w w' := by
  have hinfo : (Try.prog.info? 53).map (fun i => (i.zero, i.size, i.bytes)) = some (some (.agg #[(.int .i64 0), (.int .i64 0), (.int .i64 0)]), 3, 24) := by kernel_rfl
  unfold slices_Clone.f at h
  by_cases hlim : l0.length < 5864062014805
  · rw [if_pos hlim] at h
    obtain rfl := Option.some.inj h
    clear h
    have HR := Aside0.mk hr0
    have LM := Aside0.mk hlim
    have HI := Aside0.mk hinfo
    have HB := Aside0.mk (Below.refl w.heap.size w)
    have hnil := fun W => Lib.run_eql_slice_nil (P := Try.prog) W 27 53 A0 l0.length c0 0 0 Try.underlying27
    clear hinfo hlim hc0
    cases A0 with
    | none =>
      have h0 : l0 = [] := by
        cases l0 with
        | nil => rfl
        | cons x l =>
          obtain ⟨ad, e, _⟩ := hr0.2.2 (by simp)
          cases e
      subst h0
      have hn : ∀ W, (binOp .eql 27 (.slice none 0 c0) (.slice none 0 0)).run Try.prog W = .ok (.bool true) W := fun W => (hnil W).trans (by rfl)
      clear hr0 hnil
      go_enter Try.func72, Try.ntmps72
      go_wp2
      go_ret
      exact ⟨_, rfl, Kd.R_nil _ _ _ _ _, HB.out⟩
    | some ad =>
      clear hr0
      go_enter Try.func72, Try.ntmps72
      go_wp2_with (first
        | ((with_reducible refine gate_dst (N := 5) rfl ?_); refine Kd.R_lit k53 _ 53 ?hg (N := 5) ?hd (xs := ([] : List S53)) (inner := []) (ok := fun _ => True) (okp := fun _ => True) ?hr ?hp (fun _ hk => hk) trivial (Below.refl _ _) (Nat.le_refl _) (by simp) ?_; (case hd => rfl); (case hg => rfl); (case hr => first | (go_simp; done) | (go_simp; rfl)); (case hp => exact (Reps.none _ _)); intro v5 w5 ho5 hb hg_ hnew_; clear hg_ hnew_; have n0_ := Aside0.mk ho5; have n1_ := Aside0.mk hb; clear ho5 hb; have HO5 := n0_; have HB5 := n1_; clear n0_ n1_)
        | ((with_reducible refine gate_builtin (b := .append) (xs := #[.tmp 5, .tmp 6]) rfl ?_); at_builtin; refine Kd.R_append_rows k53 (w0 := w) w.heap.size rfl (.tmp 5) (.tmp 6) 27 53 (.agg #[(.int .i64 0), (.int .i64 0), (.int .i64 0)]) 24 rfl Try.underlying27 HI.out rfl (by decide) (by omega) v5 ([] : List S53) l0 _ _ _ (fun _ => True) (fun _ => False) rfl rfl ?aO ?aR (fun _ _ h => h) (fun _ h => h.elim) ?aF ?aB ?aS ?aL ?_; (case aR => exact Kd.C_below HR.out HB5.out); (case aB => exact HB5.out); (case aF => exact (fun _ _ => trivial)); (case aO => exact HO5.out); (case aS => exact below_size HB5.out); (case aL => have := LM.out; simp; omega); intro v6 w6 ho hb hg hat; clear hg hat; have n0_ := Aside0.mk ho; have n1_ := Aside0.mk hb; clear ho hb; have HO6 := n0_; have HB6 := n1_; clear n0_ n1_; obtain ⟨Ao, co, eo⟩ := Kd.R_slice HO6.out; subst eo))
      go_ret
      exact ⟨_, rfl, HO6.out, HB6.out⟩
  · rw [if_neg hlim] at h
    cases h

/-! ### impl_copyBelt: function 54 -/
def impl_copyBelt.f (a0_0 : Int) (a0_1 : Int) (a0_2 : Bool) (l0_3 : List (S53)) : Option (Int × Int × Bool × (List (S53))) := (slices_Clone.f l0_3).bind fun t167 => (some (a0_0, a0_1, a0_2, t167))
set_option maxHeartbeats 8000000 in
set_option maxRecDepth 100000 in
theorem impl_copyBelt.calls (a0_0 : Int) (a0_1 : Int) (a0_2 : Bool) (A0_3 : Option Addr) (c0_3 : Nat) (l0_3 : List (S53)) (r1 : Int) (r2 : Int) (r3 : Bool) (r4 : List (S53)) (w : World) (hr0_3 : Kd.C k53 w A0_3 l0_3.length l0_3) (hc0_3 : l0_3.length ≤ c0_3) (h : impl_copyBelt.f a0_0 a0_1 a0_2 l0_3 = some (r1, r2, r3, r4)) :
  Calls Try.prog 54 #[.agg #[.int .i64 a0_0, .int .i64 a0_1, .bool a0_2, .slice A0_3 l0_3.length c0_3]] w fun e w' => ∃ v3_ : Value, e = .returned (.agg #[.int .i64 r1, .int .i64 r2, .bool r3, v3_]) ∧ Kd.R k53 53 w' w.heap.size (fun _ => True) v3_ r4 ∧ Below w.heap.size w w' := by
 have hu29 := Try.underlying29
 have HR0_3 := uD hr0_3
 have HC0_3 := uD hc0_3
 clear hr0_3 hc0_3
 have HB := uD (Below.refl w.heap.size w)
 have H : ((slices_Clone.f l0_3).bind fun t167 => (some (a0_0, a0_1, a0_2, t167))) = some (r1, r2, r3, r4) := h
 clear h
 replace H := Option.bind_eq_some_iff.mp H
 obtain ⟨t167, A20, H⟩ := H
 replace H : (some (a0_0, a0_1, a0_2, t167)) = some (r1, r2, r3, r4) := H
 have A2 := uD A20
 clear A20
 simp only [Option.some.injEq, Prod.mk.injEq] at H
 obtain ⟨rfl, rfl, rfl, rfl⟩ := H
 go_enter Try.func54, Try.ntmps54
 go_wp2_with (first | ((with_reducible refine gate_dst (N := 1) rfl ?_); refine bx 1 #[.int .i64 a0_0, .int .i64 a0_1, .bool a0_2, .slice A0_3 l0_3.length c0_3] 29 ?_; intro gb165 hg w3 hbox hb; have BK165 := uD (hbox); have GW165 := uD ((by rw [hg]; exact (uN (pb HB)) : w.heap.size ≤ gb165)); have GE165 := uD ((by rw [hg]; exact (uN (pb HB)) : w.heap.size ≤ gb165)); replace HB := uD (uO (pb HB) hb); clear hb hbox hg) | ((with_reducible refine gate_dst (N := 2) rfl ?_); refine bx 2 #[.int .i64 0, .int .i64 0, .bool false, .slice none 0 0] 29 ?_; intro gb166 hg w4 hbox hb; have BK166 := uD (hbox); have GW166 := uD ((by rw [hg]; exact (uN (pb HB)) : w.heap.size ≤ gb166)); have GE166 := uD ((by rw [hg]; exact (uN (pb HB)) : w.heap.size ≤ gb166)); replace HB := uD (uO (pb HB) hb); have NB165_166 := uD ((by rw [hg]; exact Nat.ne_of_lt (blk_lt (pk BK165)) : gb165 ≠ gb166)); have NB166_165 := uD ((by rw [hg]; exact Nat.ne_of_gt (blk_lt (pk BK165)) : gb166 ≠ gb165)); replace BK165 := uD (blk_below (pk BK165) hb); clear hb hbox hg; have hnb5 := NB165_166.out; have hnc5 := NB166_165.out; obtain ⟨hcz6_0, hcz6_1, hcz6_2, hcz6_3, hfz6_0, hfz6_1, hfz6_2, hfz6_3⟩ := cz4 BK165) | ((with_reducible refine gate_callee (f := 72) rfl ?_); refine gl (some 5) Try.func72 #[.slice A0_3 l0_3.length c0_3] ?_; (with_reducible refine (slices_Clone.calls _ _ l0_3 t167 _ ?side1 ?side2 A2.out).mono ?_); (case side1 => exact pc (Kd.C_below HR0_3.out HB.out)); (case side2 => exact HC0_3.out); rintro e w7 ⟨v168, rfl, ho0, hb⟩; refine ⟨_, rfl, ?_⟩; have HO169 := uD (Kd.R_lower ho0 (uN (pb HB))); replace BK165 := uD (blk_below (pk BK165) hb); replace BK166 := uD (blk_below (pk BK166) hb); replace HB := uD (uO (pb HB) hb); (try clear hb); (try clear hb2); (try clear hk); (try clear hi); (try clear ho0); obtain ⟨Ao8, co8, eo8⟩ := Kd.R_slice HO169.out; subst eo8; obtain ⟨hcz9_0, hcz9_1, hcz9_2, hcz9_3, hfz9_0, hfz9_1, hfz9_2, hfz9_3⟩ := cz4 BK165; obtain ⟨hcz10_0, hcz10_1, hcz10_2, hcz10_3, hfz10_0, hfz10_1, hfz10_2, hfz10_3⟩ := cz4 BK166))
 refine bodyPost_ret (results_cell_row rfl _ _ gb166 29 #[.int .i64 a0_0, .int .i64 a0_1, .bool a0_2, .slice Ao8 t167.length co8] (0, 0) _ rfl (by (with_reducible repeat first|apply uH|apply uJ|apply uG); refine uP (cs := #[.int .i64 a0_0, .int .i64 a0_1, .bool a0_2, .slice none 0 0]) ?_ 3 _ rfl; (with_reducible repeat first|apply uH|apply uJ|apply uG); refine uP (cs := #[.int .i64 a0_0, .int .i64 a0_1, .bool false, .slice none 0 0]) ?_ 2 _ rfl; (with_reducible repeat first|apply uH|apply uJ|apply uG); refine uP (cs := #[.int .i64 a0_0, .int .i64 0, .bool false, .slice none 0 0]) ?_ 1 _ rfl; (with_reducible repeat first|apply uH|apply uJ|apply uG); refine uP (cs := #[.int .i64 0, .int .i64 0, .bool false, .slice none 0 0]) ?_ 0 _ rfl; exact ps BK166) Try.underlying29 rfl (by kernel_rfl)) rfl ?_
 exact ⟨_, by first | rfl | (simp [errW_none, errW_some] <;> rfl) | (simp [*, errW_none, errW_some] <;> rfl), by (with_reducible repeat (first | apply uU | apply uS | apply uT)); exact uX (uV (p := ⟨gb166, 3, none⟩) (uV (p := ⟨gb166, 2, none⟩) (uV (p := ⟨gb166, 1, none⟩) (uV (p := ⟨gb166, 0, none⟩) (uV (p := ⟨gb165, 3, none⟩) (uW (uW HO169.out BK165.out (by decide)) BK166.out (by decide)) (fun _ hk => hk.1.2) (.slice Ao8 t167.length co8)) (fun _ hk => hk.2) (.int .i64 a0_0)) (fun _ hk => hk.2) (.int .i64 a0_1)) (fun _ hk => hk.2) (.bool a0_2)) (fun _ hk => hk.2) (.slice Ao8 t167.length co8)) (fun _ hk => trivial), pb HB⟩

/-! ### impl_Backlog: function 25 -/
def impl_Backlog.f (k : Nat) (a0_0 : Int) (a0_1 : Int) (a0_2 : Bool) (l0_3 : List (S53)) : Option (Int) := (impl_BeltOk.f k a0_0 a0_1 a0_2 l0_3).bind fun t171 => (if t171 = true then ((impl_copyBelt.f a0_0 a0_1 a0_2 l0_3).bind fun bt172 => ((impl_stepped.f k bt172.1 bt172.2.1 bt172.2.2.1 bt172.2.2.2).bind fun bt178 => (some (wrap64 ((l0_3.length : Int) - bt178.1))))) else (some (-1)))
theorem impl_Backlog.mono : ∀ a0 a1 a2 a3 k, LeO (impl_Backlog.f k a0 a1 a2 a3) (impl_Backlog.f (k + 1) a0 a1 a2 a3) := by
 intro a0 a1 a2 a3 k
 unfold impl_Backlog.f
 repeat' first
   | (with_reducible exact impl_BeltOk.mono _ _ _ _ _)
   | (with_reducible exact impl_stepped.mono _ _ _ _ _)
   | (with_reducible exact LeO.refl _)
   | (with_reducible exact LeO.none _)
   | (with_reducible refine LeO.ite ?_ ?_)
   | (with_reducible refine LeO.bind ?_ (fun _ => ?_))
   | exact impl_BeltOk.mono _ _ _ _ _
   | exact impl_stepped.mono _ _ _ _ _
   | exact LeO.none _
   | refine LeO.ite ?_ ?_
   | refine LeO.bind ?_ (fun _ => ?_)
def impl_Backlog.T3 : Bool × List (List Nat × List Nat) := (true, [([], []), ([0], [0]), ([1], [1]), ([], []), ([3], [3]), ([4, 4], [4]), ([2, 5], [2, 5]), ([6, 5, 0, 1, 2, 3, 4, 5, 6], [6])])
def impl_Backlog.B3 : List Nat := [0, 1, 3, 0, 8, 24, 63, 127]
theorem impl_Backlog.tab3 : rtab .any (opsOf Try.f25 3) = impl_Backlog.T3 := by kernel_rfl
theorem impl_Backlog.bits3 : waitsOk impl_Backlog.T3.2 impl_Backlog.B3 = true := by kernel_rfl
set_option maxHeartbeats 8000000 in
set_option maxRecDepth 100000 in
theorem impl_Backlog.calls (k : Nat) (a0_0 : Int) (a0_1 : Int) (a0_2 : Bool) (A0_3 : Option Addr) (c0_3 : Nat) (l0_3 : List (S53)) (r : Int) (w : World) (hr0_3 : Kd.C k53 w A0_3 l0_3.length l0_3) (hc0_3 : l0_3.length ≤ c0_3) (h : impl_Backlog.f k a0_0 a0_1 a0_2 l0_3 = some r) :
  Calls Try.prog 25 #[.agg #[.int .i64 a0_0, .int .i64 a0_1, .bool a0_2, .slice A0_3 l0_3.length c0_3]] w fun e w' => e = .returned (.int .i64 r) ∧ Below w.heap.size w w' := by
 have hu29 := Try.underlying29
 have HR0_3 := uD hr0_3
 have HC0_3 := uD hc0_3
 clear hr0_3 hc0_3
 have HB := uD (Below.refl w.heap.size w)
 have H : ((impl_BeltOk.f k a0_0 a0_1 a0_2 l0_3).bind fun t171 => (if t171 = true then ((impl_copyBelt.f a0_0 a0_1 a0_2 l0_3).bind fun bt172 => ((impl_stepped.f k bt172.1 bt172.2.1 bt172.2.2.1 bt172.2.2.2).bind fun bt178 => (some (wrap64 ((l0_3.length : Int) - bt178.1))))) else (some (-1)))) = some r := h
 clear h
 replace H := Option.bind_eq_some_iff.mp H
 obtain ⟨t171, A20, H⟩ := H
 replace H : (if t171 = true then ((impl_copyBelt.f a0_0 a0_1 a0_2 l0_3).bind fun bt172 => ((impl_stepped.f k bt172.1 bt172.2.1 bt172.2.2.1 bt172.2.2.2).bind fun bt178 => (some (wrap64 ((l0_3.length : Int) - bt178.1))))) else (some (-1))) = some r := H
 have A2 := uD A20
 clear A20
 by_cases c3 : t171 = true
 ·subst c3
  have H1 : ((impl_copyBelt.f a0_0 a0_1 a0_2 l0_3).bind fun bt172 => ((impl_stepped.f k bt172.1 bt172.2.1 bt172.2.2.1 bt172.2.2.2).bind fun bt178 => (some (wrap64 ((l0_3.length : Int) - bt178.1))))) = some r := by rw [if_pos rfl] at H; first | done | exact H
  clear H
  have H := H1
  clear H1
  replace H := Option.bind_eq_some_iff.mp H
  obtain ⟨⟨t172, t173, t174, t175⟩, A40, H⟩ := H
  replace H : ((impl_stepped.f k t172 t173 t174 t175).bind fun bt178 => (some (wrap64 ((l0_3.length : Int) - bt178.1)))) = some r := H
  have A4 := uD A40
  clear A40
  replace H := Option.bind_eq_some_iff.mp H
  obtain ⟨⟨t178, t179⟩, A50, H⟩ := H
  replace H : (some (wrap64 ((l0_3.length : Int) - t178))) = some r := H
  have A5 := uD A50
  clear A50
  obtain rfl := Option.some.inj H
  go_enter Try.func25, Try.ntmps25
  try go_wp2_with (first | ((with_reducible refine gate_dst (N := 1) rfl ?_); refine bx 1 #[.int .i64 a0_0, .int .i64 a0_1, .bool a0_2, .slice A0_3 l0_3.length c0_3] 29 ?_; intro gb170 hg w6 hbox hb; have BK170 := uD (hbox); have GW170 := uD ((by rw [hg]; exact (uN (pb HB)) : w.heap.size ≤ gb170)); have GE170 := uD ((by rw [hg]; exact (uN (pb HB)) : w.heap.size ≤ gb170)); replace HB := uD (uO (pb HB) hb); clear hb hbox hg; obtain ⟨hcz7_0, hcz7_1, hcz7_2, hcz7_3, hfz7_0, hfz7_1, hfz7_2, hfz7_3⟩ := cz4 BK170) | ((with_reducible refine gate_callee (f := 18) rfl ?_); refine gl (some 4) Try.func18 #[.agg #[.int .i64 a0_0, .int .i64 a0_1, .bool a0_2, .slice A0_3 l0_3.length c0_3]] ?_; (with_reducible refine (impl_BeltOk.calls k a0_0 a0_1 a0_2 _ _ l0_3 true _ ?side1 ?side2 A2.out).mono ?_); (case side1 => exact pc (Kd.C_below HR0_3.out HB.out)); (case side2 => exact HC0_3.out); rintro e w8 ⟨rfl, hb⟩; refine ⟨_, rfl, ?_⟩; replace BK170 := uD (blk_below (pk BK170) hb); replace HB := uD (uO (pb HB) hb); (try clear hb); (try clear hb2); (try clear hk); (try clear hi)))
  replace BK170 := uD (uJ BK170.out)
  replace HB := uD (uK HB.out)
  refine start_ (n := 8) (S := fun w' => w'.cell? ⟨gb170, 0, none⟩ = some (.int .i64 a0_0) ∧ w'.cell? ⟨gb170, 1, none⟩ = some (.int .i64 a0_1) ∧ w'.cell? ⟨gb170, 2, none⟩ = some (.bool a0_2) ∧ w'.cell? ⟨gb170, 3, none⟩ = some (.slice A0_3 l0_3.length c0_3)) (ds := []) #[F,F,F,F,F,F,F,F] (by kernel_rfl) rfl rfl ⟨(uF BK170.out 0).trans rfl, (uF BK170.out 1).trans rfl, (uF BK170.out 2).trans rfl, (uF BK170.out 3).trans rfl⟩ (fun hHeld => ?_); refine with_tabW impl_Backlog.tab3 impl_Backlog.bits3 (fun HT_ HW_ => ?_)
  generalize w8.drew = w9 at BK170 HB hHeld ⊢
  refine pu 0 (some 6) #[T,F,F,F,F,F,F,F] HT_ ?_
  refine tk 1 (some 7) #[T,T,F,F,F,F,F,F] HT_ HW_ hHeld ?_
  refine pu 2 (some 8) #[T,T,T,F,F,F,F,F] HT_ ?_
  refine tk 3 (some 9) #[T,T,T,T,F,F,F,F] HT_ HW_ hHeld ?_
  refine one_ (i := 4) (N := some 10) #[T,T,T,T,T,F,F,F] rfl rfl (one_of HT_.out (by kernel_rfl)) (by decide) (fun K hK => ?_)
  refine goes_ Try.func54 (by kernel_rfl) rfl #[.agg #[.int .i64 a0_0, .int .i64 a0_1, .bool a0_2, .slice A0_3 l0_3.length c0_3]] (by rfl) rfl rfl (by (try simp only [List.map_toArray, List.map_cons, List.map_nil]); first | done | rfl | (simp only [List.length_drop, List.length_take]; rfl)) ?_
  with_reducible refine (impl_copyBelt.calls a0_0 a0_1 a0_2 _ _ l0_3 t172 t173 t174 t175 _ ?side1 ?side2 A4.out).mono ?_
  (case side1 => exact pc (Kd.C_below HR0_3.out HB.out))
  (case side2 => exact HC0_3.out)
  rintro e w10 ⟨v176, rfl, ho0, hb⟩
  refine ⟨_, rfl, ?_⟩
  have HO177 := uD (Kd.R_lower ho0 (uN (pb HB)))
  replace BK170 := uD (blk_below (pk BK170) hb)
  replace HB := uD (uO (pb HB) hb)
  (try clear hb)
  (try clear hb2)
  (try clear hk)
  (try clear hi)
  (try clear ho0)
  obtain ⟨Ao11, co11, eo11⟩ := Kd.R_slice HO177.out
  (first | subst eo11 | (injection eo11 with f1_ f2_ f3_; have f4_ := f1_.symm; have f5_ := f3_.symm; clear f1_ f2_ f3_; subst f4_; subst f5_))
  refine hK.out _ _ ⟨(uF BK170.out 0).trans rfl, (uF BK170.out 1).trans rfl, (uF BK170.out 2).trans rfl, (uF BK170.out 3).trans rfl⟩ (fun hHeld => ?_)
  clear hK K
  refine norm_ (a' := ?_) ?_ ?_
  rotate_left
  ·show uc _ (some 10) _ = _
   simp only [uc, uA, uB, uC, uZ, ua]
   rfl
  refine one_ (i := 5) (N := some 11) #[T,T,T,T,T,T,F,F] rfl rfl (one_of HT_.out (by kernel_rfl)) (by decide) (fun K hK => ?_)
  refine goes_ Try.func53 (by kernel_rfl) rfl #[.agg #[.int .i64 t172, .int .i64 t173, .bool t174, .slice Ao11 t175.length co11]] (by rfl) rfl rfl (by (try simp only [List.map_toArray, List.map_cons, List.map_nil]); first | done | rfl | (simp only [List.length_drop, List.length_take]; rfl)) ?_
  with_reducible refine (impl_stepped.calls k t172 t173 t174 (fun k_ => some k_ = (.slice Ao11 t175.length co11 : Value).ownBlock) (.slice Ao11 t175.length co11) t175 t178 t179 w _ ?side1 ?side2 A5.out).mono ?_
  (case side1 => repeat (first | (with_reducible first | exact HB.out | apply uL | apply uE | apply uK | refine uM ?_ GE170.out) | exact HB.out))
  (case side2 => exact (Kd.Q_of_R (Kd.R_tight rfl HO177.out)))
  rintro e w12 ⟨rfl, hy0, hb, hkp⟩
  refine ⟨_, rfl, ?_⟩
  replace BK170 := uD (blk_kept (pk BK170) hkp (fun hs_ => (fun e_ => (Kd.R_ne HO177.out BK170.out (by decide)) e_) hs_))
  replace HO177 := uD (Kd.Q_mono (Kd.Q_tight rfl hy0) (fun k_ e_ => HO177.out.1 k_ e_.symm))
  replace HB := uD (hb)
  (try clear hb)
  (try clear hkp)
  (try clear hy0)
  refine hK.out _ _ ⟨(uF BK170.out 0).trans rfl, (uF BK170.out 1).trans rfl, (uF BK170.out 2).trans rfl, (uF BK170.out 3).trans rfl⟩ (fun hHeld => ?_)
  clear hK K
  refine norm_ (a' := ?_) ?_ ?_
  rotate_left
  ·show uc _ (some 11) _ = _
   simp only [uc, uA, uB, uC, uZ, ua]
   rfl
  refine pu 6 (some 12) #[T,T,T,T,T,T,T,F] HT_ ?_
  refine pu 7 (some 2) #[T,T,T,T,T,T,T,T] HT_ ?_
  refine done_ (done_of HT_.out (by kernel_rfl)) ?_
  try go_wp2
  go_ret
  exact ⟨by first | rfl | (simp [errW_none, errW_some] <;> rfl) | (simp [*, errW_none, errW_some] <;> rfl), pb HB⟩
 ·replace c3 := Bool.eq_false_iff.mpr c3
  subst c3
  have H1 : (some (-1)) = some r := by rw [if_neg (show ¬ (false = true) by decide)] at H; first | done | exact H
  clear H
  have H := H1
  clear H1
  obtain rfl := Option.some.inj H
  go_enter Try.func25, Try.ntmps25
  go_wp2_with (first | ((with_reducible refine gate_dst (N := 1) rfl ?_); refine bx 1 #[.int .i64 a0_0, .int .i64 a0_1, .bool a0_2, .slice A0_3 l0_3.length c0_3] 29 ?_; intro gb170 hg w13 hbox hb; have BK170 := uD (hbox); have GW170 := uD ((by rw [hg]; exact (uN (pb HB)) : w.heap.size ≤ gb170)); have GE170 := uD ((by rw [hg]; exact (uN (pb HB)) : w.heap.size ≤ gb170)); replace HB := uD (uO (pb HB) hb); clear hb hbox hg; obtain ⟨hcz14_0, hcz14_1, hcz14_2, hcz14_3, hfz14_0, hfz14_1, hfz14_2, hfz14_3⟩ := cz4 BK170) | ((with_reducible refine gate_callee (f := 18) rfl ?_); refine gl (some 4) Try.func18 #[.agg #[.int .i64 a0_0, .int .i64 a0_1, .bool a0_2, .slice A0_3 l0_3.length c0_3]] ?_; (with_reducible refine (impl_BeltOk.calls k a0_0 a0_1 a0_2 _ _ l0_3 false _ ?side1 ?side2 A2.out).mono ?_); (case side1 => exact pc (Kd.C_below HR0_3.out HB.out)); (case side2 => exact HC0_3.out); rintro e w15 ⟨rfl, hb⟩; refine ⟨_, rfl, ?_⟩; replace BK170 := uD (blk_below (pk BK170) hb); replace HB := uD (uO (pb HB) hb); (try clear hb); (try clear hb2); (try clear hk); (try clear hi)))
  go_ret
  exact ⟨by first | rfl | (simp [errW_none, errW_some] <;> rfl) | (simp [*, errW_none, errW_some] <;> rfl), pb HB⟩

/-! ### spec_l02Fresh: function 55 -/
def spec_l02Fresh.f (a0_0 : Int) (a0_1 : Int) (a0_2 : Bool) (l0_3 : List (S53)) : Option (Int × Int × Bool × (List (S53))) := (some (([] : List (S53)) : List (S53))).bind fun y182 => (if y182.length + l0_3.length < 5864062014805 then (some (a0_0, a0_1, a0_2, (y182 ++ l0_3))) else (none))
set_option maxHeartbeats 8000000 in
set_option maxRecDepth 100000 in
theorem spec_l02Fresh.calls (a0_0 : Int) (a0_1 : Int) (a0_2 : Bool) (A0_3 : Option Addr) (c0_3 : Nat) (l0_3 : List (S53)) (r1 : Int) (r2 : Int) (r3 : Bool) (r4 : List (S53)) (w : World) (hr0_3 : Kd.C k53 w A0_3 l0_3.length l0_3) (hc0_3 : l0_3.length ≤ c0_3) (h : spec_l02Fresh.f a0_0 a0_1 a0_2 l0_3 = some (r1, r2, r3, r4)) :
  Calls Try.prog 55 #[.agg #[.int .i64 a0_0, .int .i64 a0_1, .bool a0_2, .slice A0_3 l0_3.length c0_3]] w fun e w' => ∃ v3_ : Value, e = .returned (.agg #[.int .i64 r1, .int .i64 r2, .bool r3, v3_]) ∧ Kd.R k53 53 w' w.heap.size (fun _ => True) v3_ r4 ∧ Below w.heap.size w w' := by
 have hu29 := Try.underlying29
 have HR0_3 := uD hr0_3
 have HC0_3 := uD hc0_3
 clear hr0_3 hc0_3
 have HB := uD (Below.refl w.heap.size w)
 have H : ((some (([] : List (S53)) : List (S53))).bind fun y182 => (if y182.length + l0_3.length < 5864062014805 then (some (a0_0, a0_1, a0_2, (y182 ++ l0_3))) else (none))) = some (r1, r2, r3, r4) := h
 clear h
 obtain ⟨y182, hy182⟩ : ∃ y_ : List (S53), y_ = (([] : List (S53))) := ⟨_, rfl⟩
 replace H : (if y182.length + l0_3.length < 5864062014805 then (some (a0_0, a0_1, a0_2, (y182 ++ l0_3))) else (none)) = some (r1, r2, r3, r4) := by first | (rw [hy182]; with_reducible exact H) | (have H2_ := (Option.bind_some _ _).symm.trans H; rw [hy182]; with_reducible exact H2_) | (have H2_ := (Option.bind_some _ _).symm.trans H; with_reducible exact H2_) | with_reducible exact H | (rw [hy182]; exact H) | exact H
 have Ny182 := uD hy182
 clear hy182
 by_cases c2 : y182.length + l0_3.length < 5864062014805
 ·rw [if_pos c2] at H
  have LMc2 := uD c2
  clear c2
  obtain ⟨y185, hy185⟩ : ∃ y_ : List (S53), y_ = (y182 ++ l0_3) := ⟨_, rfl⟩
  replace H : (some (a0_0, a0_1, a0_2, y185)) = some (r1, r2, r3, r4) := by first | (rw [hy185]; with_reducible exact H) | (have H2_ := (Option.bind_some _ _).symm.trans H; rw [hy185]; with_reducible exact H2_) | (have H2_ := (Option.bind_some _ _).symm.trans H; with_reducible exact H2_) | with_reducible exact H | (rw [hy185]; exact H) | exact H
  have Ny185 := uD hy185
  clear hy185
  simp only [Option.some.injEq, Prod.mk.injEq] at H
  obtain ⟨rfl, rfl, rfl, rfl⟩ := H
  go_enter Try.func55, Try.ntmps55
  go_wp2_with (first | ((with_reducible refine gate_dst (N := 1) rfl ?_); refine bx 1 #[.int .i64 a0_0, .int .i64 a0_1, .bool a0_2, .slice A0_3 l0_3.length c0_3] 29 ?_; intro gb180 hg w3 hbox hb; have BK180 := uD (hbox); have GW180 := uD ((by rw [hg]; exact (uN (pb HB)) : w.heap.size ≤ gb180)); have GE180 := uD ((by rw [hg]; exact (uN (pb HB)) : w.heap.size ≤ gb180)); replace HB := uD (uO (pb HB) hb); clear hb hbox hg) | ((with_reducible refine gate_dst (N := 2) rfl ?_); refine bx 2 #[.int .i64 0, .int .i64 0, .bool false, .slice none 0 0] 29 ?_; intro gb181 hg w4 hbox hb; have BK181 := uD (hbox); have GW181 := uD ((by rw [hg]; exact (uN (pb HB)) : w.heap.size ≤ gb181)); have GE181 := uD ((by rw [hg]; exact (uN (pb HB)) : w.heap.size ≤ gb181)); replace HB := uD (uO (pb HB) hb); have NB180_181 := uD ((by rw [hg]; exact Nat.ne_of_lt (blk_lt (pk BK180)) : gb180 ≠ gb181)); have NB181_180 := uD ((by rw [hg]; exact Nat.ne_of_gt (blk_lt (pk BK180)) : gb181 ≠ gb180)); replace BK180 := uD (blk_below (pk BK180) hb); clear hb hbox hg) | ((with_reducible refine gate_dst (N := 3) rfl ?_); refine Kd.R_lit k53 _ 53 ?hg (N := 3) ?hd (xs := ([] : List (S53))) (inner := []) (ok := fun _ => True) (okp := fun _ => True) ?hr ?hp (fun _ hk => hk) trivial (Below.refl _ _) (Nat.le_refl _) (by simp) ?_; (case hd => rfl); (case hg => rfl); (case hr => first | (go_simp; done) | (go_simp; rfl)); (case hp => exact (Reps.none _ _)); intro v183 w5 ho6 hb hg_ hnew_; clear hg_ hnew_; (first | rw [← Ny182.out] at ho6 | (simp only [Int.reduceToNat] at ho6; rw [← Ny182.out] at ho6)); have HO184 := uD (Kd.R_lower ho6 (uN (pb HB))); replace BK180 := uD (blk_below (pk BK180) hb); replace BK181 := uD (blk_below (pk BK181) hb); replace HB := uD (uO (pb HB) hb); clear hb ho6; have hnb7 := NB180_181.out; have hnc7 := NB181_180.out; obtain ⟨hcz8_0, hcz8_1, hcz8_2, hcz8_3, hfz8_0, hfz8_1, hfz8_2, hfz8_3⟩ := cz4 BK180) | ((with_reducible refine gate_builtin (b := .append) (xs := #[.tmp 3, .tmp 5]) rfl ?_); at_builtin; refine Kd.R_append_rows k53 (w0 := w) w.heap.size rfl (.tmp 3) (.tmp 5) 27 53 (.agg #[(.int .i64 0), (.int .i64 0), (.int .i64 0)]) 24 rfl Try.underlying27 info53 rfl (by decide) (by omega) v183 y182 l0_3 _ _ _ (fun _ => True) (fun _ => False) rfl rfl ?aO ?aR (fun _ _ h => h) (fun _ h => h.elim) ?aF ?aB ?aS ?aL ?_; (case aR => exact pc (Kd.C_below HR0_3.out HB.out)); (case aB => exact (pb HB)); (case aF => exact (fun _ _ => trivial)); (case aO => exact (pr HO184)); (case aS => exact (uN (pb HB))); (case aL => have := LMc2.out; omega); intro v186 w9 ho hb hg hat; rw [← Ny185.out] at ho; replace BK180 := uD (blk_grown (pk BK180) hg (Kd.R_ne HO184.out BK180.out (by decide))); replace BK181 := uD (blk_grown (pk BK181) hg (Kd.R_ne HO184.out BK181.out (by decide))); replace HB := uD (hb); have HO187 := uD (ho); clear HO184; clear ho hb hg hat; obtain ⟨Ao10, co10, eo10⟩ := Kd.R_slice HO187.out; subst eo10; obtain ⟨hcz11_0, hcz11_1, hcz11_2, hcz11_3, hfz11_0, hfz11_1, hfz11_2, hfz11_3⟩ := cz4 BK180; obtain ⟨hcz12_0, hcz12_1, hcz12_2, hcz12_3, hfz12_0, hfz12_1, hfz12_2, hfz12_3⟩ := cz4 BK181))
  refine bodyPost_ret (results_cell_row rfl _ _ gb181 29 #[.int .i64 a0_0, .int .i64 a0_1, .bool a0_2, .slice Ao10 y185.length co10] (0, 0) _ rfl (by (with_reducible repeat first|apply uH|apply uJ|apply uG); refine uP (cs := #[.int .i64 a0_0, .int .i64 a0_1, .bool a0_2, .slice none 0 0]) ?_ 3 _ rfl; (with_reducible repeat first|apply uH|apply uJ|apply uG); refine uP (cs := #[.int .i64 a0_0, .int .i64 a0_1, .bool false, .slice none 0 0]) ?_ 2 _ rfl; (with_reducible repeat first|apply uH|apply uJ|apply uG); refine uP (cs := #[.int .i64 a0_0, .int .i64 0, .bool false, .slice none 0 0]) ?_ 1 _ rfl; (with_reducible repeat first|apply uH|apply uJ|apply uG); refine uP (cs := #[.int .i64 0, .int .i64 0, .bool false, .slice none 0 0]) ?_ 0 _ rfl; exact ps BK181) Try.underlying29 rfl (by kernel_rfl)) rfl ?_
  exact ⟨_, by first | rfl | (simp [errW_none, errW_some] <;> rfl) | (simp [*, errW_none, errW_some] <;> rfl), by (with_reducible repeat (first | apply uU | apply uS | apply uT)); exact uX (uV (p := ⟨gb181, 3, none⟩) (uV (p := ⟨gb181, 2, none⟩) (uV (p := ⟨gb181, 1, none⟩) (uV (p := ⟨gb181, 0, none⟩) (uV (p := ⟨gb180, 3, none⟩) (uW (uW HO187.out BK180.out (by decide)) BK181.out (by decide)) (fun _ hk => hk.1.2) (.slice Ao10 y185.length co10)) (fun _ hk => hk.2) (.int .i64 a0_0)) (fun _ hk => hk.2) (.int .i64 a0_1)) (fun _ hk => hk.2) (.bool a0_2)) (fun _ hk => hk.2) (.slice Ao10 y185.length co10)) (fun _ hk => trivial), pb HB⟩
 ·rw [if_neg c2] at H
  exact absurd H (by simp)

end Go.Proofs.Ytbdjbdoelbmjcaa.PFnBeltEnters
