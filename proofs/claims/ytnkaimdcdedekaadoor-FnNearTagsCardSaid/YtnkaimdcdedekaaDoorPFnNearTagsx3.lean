-- Written by a program of this session (wip/myprint.py: the kit's print with changes): not by print.sh itself.
import Derived.Test.YtnkaimdcdedekaaDoorPFnNearTagsx0
import Derived.Test.YtnkaimdcdedekaaDoorPFnNearTagsx2
namespace Go.Proofs.YtnkaimdcdedekaaDoor.PFnNearTags
open Go.RowKit Go.Proofs.YtnkaimdcdedekaaDoorW.PrintWords Go.Proofs.YtnkaimdcdedekaaDoorW.PrintLast Go.Proofs.YtnkaimdcdedekaaDoorW.PrintMore
open Go renaming Act.put → uc
open Go.Proofs.YtnkaimdcdedekaaDoorW.PrintWords renaming Aside0.mk → uD, pw_below_drewN → uE, blk_alloc → uG, blk_drewN → uH, blk_drew → uJ, below_drew1 → uK, below_alloc → uL, below_set → uM, below_size → uN, below_step → uO, blk_put → uP, Kd.R_mono → uX
open List renaming setIfInBounds_toArray → uA, set_cons_zero → uB, set_cons_succ → uC
attribute [local go_sem] max2_int min2_int max_two min_two max_three min_three max_four min_four   -- for this text's walks alone
set_option linter.unusedVariables false
set_option linter.unusedSimpArgs false

/-! ### spec_l01PickInt: function 61 -/
def spec_l01PickInt.f (s0_0 : List Int) (s0_1 : Int) (s0_2 : Int) (l1 : List Int) : Option (Int × Int × Int) := (spec_l01Below.f s0_0 s0_1 s0_2 (l1.length : Int)).bind fun bt138 => (if 0 ≤ bt138.1 then (if bt138.1 < (l1.length : Int) then (some (rd l1 bt138.1, bt138.2.1, bt138.2.2)) else (none)) else (none))
set_option maxHeartbeats 8000000 in
set_option maxRecDepth 100000 in
theorem spec_l01PickInt.calls (g : Nat) (s0_0 : List Int) (s0_1 : Int) (s0_2 : Int) (A1 : Option Addr) (c1 : Nat) (l1 : List Int) (r1 : Int) (r2 : Int) (r3 : Int) (w0 w : World) (hI : IsS67 w0 w g s0_0 s0_1 s0_2) (hB : Below w0.heap.size w0 w) (hr1 : Kd.C (Kd.int .i64) w A1 l1.length l1) (hc1 : l1.length ≤ c1) (hf1 : ∀ ad, A1 = some ad → 0 < l1.length → ad.block ≠ g) (h : spec_l01PickInt.f s0_0 s0_1 s0_2 l1 = some (r1, r2, r3)) :
  Calls Tryd.prog 61 #[.pointer (some ⟨g, 0, none⟩), .slice A1 l1.length c1] w fun e w' => e = .returned (.int .i64 r1) ∧ IsS67 w0 w' g s0_0 r2 r3 ∧ Below w0.heap.size w0 w' ∧ KeepBut w w' g none := by
 have HR1 := uD hr1
 have HC1 := uD hc1
 clear hr1 hc1
 have HI0 := uD hI
 have HK := uD (KeepBut.refl w g none)
 have HL := uD hB.size
 clear hI
 have HW0 := uD hB.size
 have HB := uD hB
 clear hB
 have H : ((spec_l01Below.f s0_0 s0_1 s0_2 (l1.length : Int)).bind fun bt138 => (if 0 ≤ bt138.1 then (if bt138.1 < (l1.length : Int) then (some (rd l1 bt138.1, bt138.2.1, bt138.2.2)) else (none)) else (none))) = some (r1, r2, r3) := h
 clear h
 replace H := Option.bind_eq_some_iff.mp H
 obtain ⟨⟨t138, t139, t140⟩, A30, H⟩ := H
 replace H : (if 0 ≤ t138 then (if t138 < (l1.length : Int) then (some (rd l1 t138, t139, t140)) else (none)) else (none)) = some (r1, r2, r3) := H
 have A3 := uD A30
 clear A30
 by_cases c4 : 0 ≤ t138
 ·rw [if_pos c4] at H
  have c4b0 : decide (0 ≤ t138) = true := decide_eq_true c4
  clear c4
  by_cases c5 : t138 < (l1.length : Int)
  ·rw [if_pos c5] at H
   have c5b0 : decide (t138 < (l1.length : Int)) = true := decide_eq_true c5
   clear c5
   simp only [Option.some.injEq, Prod.mk.injEq] at H
   obtain ⟨rfl, rfl, rfl⟩ := H
   go_enter Tryd.func61, Tryd.ntmps61
   go_wp2_with (first | ((with_reducible refine gate_callee (f := 57) rfl ?_); refine gl (some 9) Tryd.func57 #[.pointer (some ⟨g, 0, none⟩), .int .i64 (l1.length : Int)] ?_; (with_reducible refine (spec_l01Below.calls g s0_0 s0_1 s0_2 (l1.length : Int) t138 t139 t140 w0 _ ?side1 ?side2 A3.out).mono ?_); (case side1 => exact IsS67.p HI0); (case side2 => exact pB HB (IsS67.ge HI0.out)); rintro e w6 ⟨rfl, hi, hb, hk⟩; refine ⟨_, rfl, ?_⟩; replace HK := uD (KeepBut.trans (ph HK) hk (.inl rfl)); replace HB := uD (hb); replace HI0 := uD (hi); (try clear hb); (try clear hb2); (try clear hk); (try clear hi); have p141 : 0 ≤ (t138 : Int) := of_decide_eq_true (by first | (with_reducible assumption) | assumption); have q141 : t138 < (l1.length : Int) := of_decide_eq_true (by first | (with_reducible assumption) | assumption); obtain ⟨ad141, e141, hx141_0⟩ := Kd.at_int HR1.out t138 p141 q141; cases e141; replace hx141_0 := keep_cell HK.out hx141_0 (by first | (rw [add_block]; exact hf1 _ rfl (by omega)) | exact hf1 _ rfl (by omega) | exact hf1 ad141 rfl (by omega)); replace p141 := eq_true p141; replace q141 := eq_true q141))
   go_ret
   exact ⟨by first | rfl | (simp [errW_none, errW_some] <;> rfl) | (simp [*, errW_none, errW_some] <;> rfl), IsS67.p HI0, pB HB (IsS67.ge HI0.out), ph HK⟩
  ·rw [if_neg c5] at H
   exact absurd H (by simp)
 ·rw [if_neg c4] at H
  exact absurd H (by simp)

/-! ### spec_l01Tag: function 53 -/
def spec_l01Tag.j0 : Nat → List Int → Int → Int → Int → Int → Int → Option (Int × Int × Int × Int × Int)
 | 0, _, _, _, _, _, _ => none
 | k + 1, x1000, x1001, x1002, x153000, x153001, x153002 => (spec_l01Once.f x1000 x1001 x1002 12).bind fun bt162 => (if bt162.1 = true then ((spec_l01PickInt.f x1000 bt162.2.1 bt162.2.2 (([1, 7, 999] : List Int))).bind fun bt168 => (some (x153000, bt168.1, x153002, bt168.2.1, bt168.2.2))) else (some (x153000, x153001, x153002, bt162.2.1, bt162.2.2)))
def spec_l01Tag.f (k : Nat) (s0_0 : List Int) (s0_1 : Int) (s0_2 : Int) : Option (Int × Int × Int × Int × Int) := (spec_l01Below.f s0_0 s0_1 s0_2 10).bind fun bt143 => ((spec_l01Below.f s0_0 bt143.2.1 bt143.2.2 999).bind fun bt146 => ((spec_l01Below.f s0_0 bt146.2.1 bt146.2.2 1000000).bind fun bt149 => ((spec_l01Once.f s0_0 bt149.2.1 bt149.2.2 8).bind fun bt153 => (if bt153.1 = true then ((spec_l01PickInt.f s0_0 bt153.2.1 bt153.2.2 (([0, 1, 999999] : List Int))).bind fun bt159 => (spec_l01Tag.j0 k s0_0 bt159.2.1 bt159.2.2 bt143.1 (wrap64 (1 + bt146.1)) bt159.1)) else (spec_l01Tag.j0 k s0_0 bt153.2.1 bt153.2.2 bt143.1 (wrap64 (1 + bt146.1)) bt149.1)))))
theorem spec_l01Tag.mono_l : ∀ k, (∀ y0 y1 y2 y3 y4 y5, LeO (spec_l01Tag.j0 k y0 y1 y2 y3 y4 y5) (spec_l01Tag.j0 (k + 1) y0 y1 y2 y3 y4 y5))
 | 0 => fun _ _ _ _ _ _ r h => by simp [spec_l01Tag.j0] at h
 | k + 1 => by
  have ih0 := spec_l01Tag.mono_l k
  ·intro y0 y1 y2 y3 y4 y5
   unfold spec_l01Tag.j0
   repeat' first
   | (with_reducible exact ih0 _ _ _ _ _ _)
   | (with_reducible exact LeO.refl _)
   | (with_reducible exact LeO.none _)
   | (with_reducible refine LeO.ite ?_ ?_)
   | (with_reducible refine LeO.bind ?_ (fun _ => ?_))
   | exact ih0 _ _ _ _ _ _
   | exact LeO.none _
   | refine LeO.ite ?_ ?_
   | refine LeO.bind ?_ (fun _ => ?_)
theorem spec_l01Tag.mono : ∀ a0 a1 a2 k, LeO (spec_l01Tag.f k a0 a1 a2) (spec_l01Tag.f (k + 1) a0 a1 a2) := by
 intro a0 a1 a2 k
 have ih0 := spec_l01Tag.mono_l k
 unfold spec_l01Tag.f
 repeat' first
   | (with_reducible exact ih0 _ _ _ _ _ _)
   | (with_reducible exact LeO.refl _)
   | (with_reducible exact LeO.none _)
   | (with_reducible refine LeO.ite ?_ ?_)
   | (with_reducible refine LeO.bind ?_ (fun _ => ?_))
   | exact ih0 _ _ _ _ _ _
   | exact LeO.none _
   | refine LeO.ite ?_ ?_
   | refine LeO.bind ?_ (fun _ => ?_)
set_option maxHeartbeats 8000000 in
set_option maxRecDepth 100000 in
theorem spec_l01Tag.calls (k : Nat) (g : Nat) (s0_0 : List Int) (s0_1 : Int) (s0_2 : Int) (r1 : Int) (r2 : Int) (r3 : Int) (r4 : Int) (r5 : Int) (w0 w : World) (hI : IsS67 w0 w g s0_0 s0_1 s0_2) (hB : Below w0.heap.size w0 w) (h : spec_l01Tag.f k s0_0 s0_1 s0_2 = some (r1, r2, r3, r4, r5)) :
  Calls Tryd.prog 53 #[.pointer (some ⟨g, 0, none⟩)] w fun e w' => e = .returned (.agg #[.int .i64 r1, .int .i64 r2, .int .i64 r3]) ∧ IsS67 w0 w' g s0_0 r4 r5 ∧ Below w0.heap.size w0 w' ∧ KeepBut w w' g none := by
 have hu25 := Tryd.underlying25
 have HI0 := uD hI
 have HK := uD (KeepBut.refl w g none)
 have HL := uD hB.size
 clear hI
 have HW0 := uD hB.size
 have HB := uD hB
 clear hB
 have H : ((spec_l01Below.f s0_0 s0_1 s0_2 10).bind fun bt143 => ((spec_l01Below.f s0_0 bt143.2.1 bt143.2.2 999).bind fun bt146 => ((spec_l01Below.f s0_0 bt146.2.1 bt146.2.2 1000000).bind fun bt149 => ((spec_l01Once.f s0_0 bt149.2.1 bt149.2.2 8).bind fun bt153 => (if bt153.1 = true then ((spec_l01PickInt.f s0_0 bt153.2.1 bt153.2.2 (([0, 1, 999999] : List Int))).bind fun bt159 => (spec_l01Tag.j0 k s0_0 bt159.2.1 bt159.2.2 bt143.1 (wrap64 (1 + bt146.1)) bt159.1)) else (spec_l01Tag.j0 k s0_0 bt153.2.1 bt153.2.2 bt143.1 (wrap64 (1 + bt146.1)) bt149.1)))))) = some (r1, r2, r3, r4, r5) := h
 clear h
 replace H := Option.bind_eq_some_iff.mp H
 obtain ⟨⟨t143, t144, t145⟩, A20, H⟩ := H
 replace H : ((spec_l01Below.f s0_0 t144 t145 999).bind fun bt146 => ((spec_l01Below.f s0_0 bt146.2.1 bt146.2.2 1000000).bind fun bt149 => ((spec_l01Once.f s0_0 bt149.2.1 bt149.2.2 8).bind fun bt153 => (if bt153.1 = true then ((spec_l01PickInt.f s0_0 bt153.2.1 bt153.2.2 (([0, 1, 999999] : List Int))).bind fun bt159 => (spec_l01Tag.j0 k s0_0 bt159.2.1 bt159.2.2 t143 (wrap64 (1 + bt146.1)) bt159.1)) else (spec_l01Tag.j0 k s0_0 bt153.2.1 bt153.2.2 t143 (wrap64 (1 + bt146.1)) bt149.1))))) = some (r1, r2, r3, r4, r5) := H
 have A2 := uD A20
 clear A20
 replace H := Option.bind_eq_some_iff.mp H
 obtain ⟨⟨t146, t147, t148⟩, A30, H⟩ := H
 replace H : ((spec_l01Below.f s0_0 t147 t148 1000000).bind fun bt149 => ((spec_l01Once.f s0_0 bt149.2.1 bt149.2.2 8).bind fun bt153 => (if bt153.1 = true then ((spec_l01PickInt.f s0_0 bt153.2.1 bt153.2.2 (([0, 1, 999999] : List Int))).bind fun bt159 => (spec_l01Tag.j0 k s0_0 bt159.2.1 bt159.2.2 t143 (wrap64 (1 + t146)) bt159.1)) else (spec_l01Tag.j0 k s0_0 bt153.2.1 bt153.2.2 t143 (wrap64 (1 + t146)) bt149.1)))) = some (r1, r2, r3, r4, r5) := H
 have A3 := uD A30
 clear A30
 replace H := Option.bind_eq_some_iff.mp H
 obtain ⟨⟨t149, t150, t151⟩, A40, H⟩ := H
 replace H : ((spec_l01Once.f s0_0 t150 t151 8).bind fun bt153 => (if bt153.1 = true then ((spec_l01PickInt.f s0_0 bt153.2.1 bt153.2.2 (([0, 1, 999999] : List Int))).bind fun bt159 => (spec_l01Tag.j0 k s0_0 bt159.2.1 bt159.2.2 t143 (wrap64 (1 + t146)) bt159.1)) else (spec_l01Tag.j0 k s0_0 bt153.2.1 bt153.2.2 t143 (wrap64 (1 + t146)) t149))) = some (r1, r2, r3, r4, r5) := H
 have A4 := uD A40
 clear A40
 replace H := Option.bind_eq_some_iff.mp H
 obtain ⟨⟨t153, t154, t155⟩, A50, H⟩ := H
 replace H : (if t153 = true then ((spec_l01PickInt.f s0_0 t154 t155 (([0, 1, 999999] : List Int))).bind fun bt159 => (spec_l01Tag.j0 k s0_0 bt159.2.1 bt159.2.2 t143 (wrap64 (1 + t146)) bt159.1)) else (spec_l01Tag.j0 k s0_0 t154 t155 t143 (wrap64 (1 + t146)) t149)) = some (r1, r2, r3, r4, r5) := H
 have A5 := uD A50
 clear A50
 have HC6 := uD H
 clear H
 go_enter Tryd.func53, Tryd.ntmps53
 go_upto_if 13 with (first | ((with_reducible refine gate_dst (N := 2) rfl ?_); refine bx 2 #[.int .i64 0, .int .i64 0, .int .i64 0] 25 ?_; intro gb142 hg w7 hbox hb; replace HB := uD (uO (pB HB (IsS67.ge HI0.out)) hb); have BK142 := uD (hbox); have GW142 := uD ((by rw [hg]; exact (keep_size (w := w) (g := g) (row := none) (ph HK)) : w.heap.size ≤ gb142)); have GE142 := uD ((Nat.le_trans HW0.out (by rw [hg]; exact (keep_size (w := w) (g := g) (row := none) (ph HK)) : w.heap.size ≤ gb142) : w0.heap.size ≤ gb142)); replace HK := uD (KeepBut.trans (ph HK) (KeepBut.of_below hb g none) (.inl rfl)); have NB0_142 := uD ((by rw [hg]; exact Nat.ne_of_lt (IsS67.lt (show IsS67 w0 _ g s0_0 s0_1 s0_2 from IsS67.p HI0)) : g ≠ gb142)); have NB142_0 := uD ((by rw [hg]; exact Nat.ne_of_gt (IsS67.lt (show IsS67 w0 _ g s0_0 s0_1 s0_2 from IsS67.p HI0)) : gb142 ≠ g)); replace HI0 := uD (IsS67.below (IsS67.p HI0) hb); clear hb hbox hg) | ((with_reducible refine gate_callee (f := 57) rfl ?_); refine gl (some 5) Tryd.func57 #[.pointer (some ⟨g, 0, none⟩), .int .i64 10] ?_; (with_reducible refine (spec_l01Below.calls g s0_0 s0_1 s0_2 10 t143 t144 t145 w0 _ ?side1 ?side2 A2.out).mono ?_); (case side1 => exact IsS67.p HI0); (case side2 => exact pB HB (IsS67.ge HI0.out)); rintro e w8 ⟨rfl, hi, hb, hk⟩; refine ⟨_, rfl, ?_⟩; replace BK142 := uD (KeepBut.blk hk (pk BK142) NB142_0.out (by simp)); replace HK := uD (KeepBut.trans (ph HK) hk (.inl rfl)); replace HB := uD (hb); replace HI0 := uD (hi); (try clear hb); (try clear hb2); (try clear hk); (try clear hi)) | ((with_reducible refine gate_callee (f := 57) rfl ?_); refine gl (some 7) Tryd.func57 #[.pointer (some ⟨g, 0, none⟩), .int .i64 999] ?_; (with_reducible refine (spec_l01Below.calls g s0_0 t144 t145 999 t146 t147 t148 w0 _ ?side1 ?side2 A3.out).mono ?_); (case side1 => exact IsS67.p HI0); (case side2 => exact pB HB (IsS67.ge HI0.out)); rintro e w9 ⟨rfl, hi, hb, hk⟩; refine ⟨_, rfl, ?_⟩; replace BK142 := uD (KeepBut.blk hk (pk BK142) NB142_0.out (by simp)); replace HK := uD (KeepBut.trans (ph HK) hk (.inl rfl)); replace HB := uD (hb); replace HI0 := uD (hi); (try clear hb); (try clear hb2); (try clear hk); (try clear hi)) | ((with_reducible refine gate_callee (f := 57) rfl ?_); refine gl (some 10) Tryd.func57 #[.pointer (some ⟨g, 0, none⟩), .int .i64 1000000] ?_; (with_reducible refine (spec_l01Below.calls g s0_0 t147 t148 1000000 t149 t150 t151 w0 _ ?side1 ?side2 A4.out).mono ?_); (case side1 => exact IsS67.p HI0); (case side2 => exact pB HB (IsS67.ge HI0.out)); rintro e w10 ⟨rfl, hi, hb, hk⟩; refine ⟨_, rfl, ?_⟩; replace BK142 := uD (KeepBut.blk hk (pk BK142) NB142_0.out (by simp)); replace HK := uD (KeepBut.trans (ph HK) hk (.inl rfl)); replace HB := uD (hb); replace HI0 := uD (hi); (try clear hb); (try clear hb2); (try clear hk); (try clear hi)) | ((with_reducible refine gate_dst (N := 3) rfl ?_); refine bx 3 #[.int .i64 0, .int .i64 0, .int .i64 0] 25 ?_; intro gb152 hg w11 hbox hb; replace HB := uD (uO (pB HB (IsS67.ge HI0.out)) hb); have BK152 := uD (hbox); have GW152 := uD ((by rw [hg]; exact (keep_size (w := w) (g := g) (row := none) (ph HK)) : w.heap.size ≤ gb152)); have GE152 := uD ((Nat.le_trans HW0.out (by rw [hg]; exact (keep_size (w := w) (g := g) (row := none) (ph HK)) : w.heap.size ≤ gb152) : w0.heap.size ≤ gb152)); replace HK := uD (KeepBut.trans (ph HK) (KeepBut.of_below hb g none) (.inl rfl)); have NB142_152 := uD ((by rw [hg]; exact Nat.ne_of_lt (blk_lt (pk BK142)) : gb142 ≠ gb152)); have NB152_142 := uD ((by rw [hg]; exact Nat.ne_of_gt (blk_lt (pk BK142)) : gb152 ≠ gb142)); replace BK142 := uD (blk_below (pk BK142) hb); have NB0_152 := uD ((by rw [hg]; exact Nat.ne_of_lt (IsS67.lt (show IsS67 w0 _ g s0_0 t150 t151 from IsS67.p HI0)) : g ≠ gb152)); have NB152_0 := uD ((by rw [hg]; exact Nat.ne_of_gt (IsS67.lt (show IsS67 w0 _ g s0_0 t150 t151 from IsS67.p HI0)) : gb152 ≠ g)); replace HI0 := uD (IsS67.below (IsS67.p HI0) hb); clear hb hbox hg; have hnb12 := NB152_142.out; have hnc12 := NB142_152.out; have hnb13 := NB152_0.out; have hnc13 := NB0_152.out; obtain ⟨hcz14_0, hcz14_1, hcz14_2, hfz14_0, hfz14_1, hfz14_2⟩ := cz3 BK152) | ((with_reducible refine gate_callee (f := 56) rfl ?_); refine gl (some 13) Tryd.func56 #[.pointer (some ⟨g, 0, none⟩), .int .i64 8] ?_; (with_reducible refine (spec_l01Once.calls g s0_0 t150 t151 8 t153 t154 t155 w0 _ ?side1 ?side2 A5.out).mono ?_); (case side1 => exact IsS67.p HI0); (case side2 => exact pB HB (IsS67.ge HI0.out)); rintro e w15 ⟨rfl, hi, hb, hk⟩; refine ⟨_, rfl, ?_⟩; replace BK142 := uD (KeepBut.blk hk (g' := gb142) (o := .cells #[.int .i64 0, .int .i64 0, .int .i64 0] 25 (0, 0)) (by exact ps BK142) NB142_0.out (by simp)); replace BK152 := uD (KeepBut.blk hk (g' := gb152) (o := .cells #[.int .i64 t143, .int .i64 (wrap64 (1 + t146)), .int .i64 t149] 25 (0, 0)) (by (with_reducible repeat first|apply uH|apply uJ|apply uG); refine uP (cs := #[.int .i64 t143, .int .i64 (wrap64 (1 + t146)), .int .i64 0]) ?_ 2 _ rfl; (with_reducible repeat first|apply uH|apply uJ|apply uG); refine uP (cs := #[.int .i64 t143, .int .i64 0, .int .i64 0]) ?_ 1 _ rfl; (with_reducible repeat first|apply uH|apply uJ|apply uG); refine uP (cs := #[.int .i64 0, .int .i64 0, .int .i64 0]) ?_ 0 _ rfl; (with_reducible repeat first|apply uH|apply uJ|apply uG); exact BK152.out) NB152_0.out (by simp)); replace HK := uD (KeepBut.trans (ph HK) hk (.inl rfl)); replace HB := uD (hb); replace HI0 := uD (hi); (try clear hb); (try clear hb2); (try clear hk); (try clear hi)))
 (try simp only [uc, uA, uB, uC])
 go_cut [] (fun wc => ∃ (kq : Nat) (x1001_5 : Int) (x1002_5 : Int) (x153002_5 : Int), Aside0 (spec_l01Tag.j0 kq s0_0 x1001_5 x1002_5 t143 (wrap64 (1 + t146)) x153002_5 = some (r1, r2, r3, r4, r5)) ∧ Aside0 (kq ≤ k) ∧ Aside0 (wc.heap[gb142]? = some (.cells #[.int .i64 0, .int .i64 0, .int .i64 0] 25 (0, 0))) ∧ Aside0 (wc.heap[gb152]? = some (.cells #[.int .i64 t143, .int .i64 (wrap64 (1 + t146)), .int .i64 x153002_5] 25 (0, 0))) ∧ Aside0 (IsS67 w0 wc g s0_0 x1001_5 x1002_5) ∧ Aside0 (KeepBut w wc g none) ∧ Aside0 (Below w0.heap.size w0 wc))
 case first =>
  have H := HC6.out
  clear HC6
  by_cases c16 : t153 = true
  ·subst c16
   have H1 : ((spec_l01PickInt.f s0_0 t154 t155 (([0, 1, 999999] : List Int))).bind fun bt159 => (spec_l01Tag.j0 k s0_0 bt159.2.1 bt159.2.2 t143 (wrap64 (1 + t146)) bt159.1)) = some (r1, r2, r3, r4, r5) := by rw [if_pos rfl] at H; first | done | exact H
   clear H
   have H := H1
   clear H1
   obtain ⟨y156, hy156⟩ : ∃ y_ : List Int, y_ = (([0, 1, 999999] : List Int)) := ⟨_, rfl⟩
   replace H : ((spec_l01PickInt.f s0_0 t154 t155 y156).bind fun bt159 => (spec_l01Tag.j0 k s0_0 bt159.2.1 bt159.2.2 t143 (wrap64 (1 + t146)) bt159.1)) = some (r1, r2, r3, r4, r5) := by first | (rw [hy156]; with_reducible exact H) | (have H2_ := (Option.bind_some _ _).symm.trans H; rw [hy156]; with_reducible exact H2_) | (have H2_ := (Option.bind_some _ _).symm.trans H; with_reducible exact H2_) | with_reducible exact H | (rw [hy156]; exact H) | exact H
   have Ny156 := uD hy156
   clear hy156
   replace H := Option.bind_eq_some_iff.mp H
   obtain ⟨⟨t159, t160, t161⟩, A170, H⟩ := H
   replace H : (spec_l01Tag.j0 k s0_0 t160 t161 t143 (wrap64 (1 + t146)) t159) = some (r1, r2, r3, r4, r5) := H
   have A17 := uD A170
   clear A170
   have H' := uD H
   clear H
   go_wp2_with (first | ((with_reducible refine gate_dst (N := 15) rfl ?_); refine Kd.R_lit (Kd.int .i64) _ 3 ?hg (N := 15) ?hd (xs := ([0, 1, 999999] : List Int)) (inner := [.int .i64 0, .int .i64 1, .int .i64 999999]) (ok := fun _ => True) (okp := fun _ => True) ?hr ?hp (fun _ hk => hk) trivial (Below.refl _ _) (Nat.le_refl _) (by simp) ?_; (case hd => rfl); (case hg => rfl); (case hr => first | (go_simp; done) | (go_simp; rfl)); (case hp => exact (Reps.one (show Kd.M (Kd.int .i64) _ _ _ 0 [.int .i64 0] from rfl) (Reps.one (show Kd.M (Kd.int .i64) _ _ _ 1 [.int .i64 1] from rfl) (Reps.one (show Kd.M (Kd.int .i64) _ _ _ 999999 [.int .i64 999999] from rfl) (Reps.none _ _))))); intro v157 w18 ho19 hb hg_ hnew_; clear hg_ hnew_; (first | rw [← Ny156.out] at ho19 | (simp only [Int.reduceToNat] at ho19; rw [← Ny156.out] at ho19)); have HO158 := uD (Kd.R_lower ho19 (keep_size (w := w) (g := g) (row := none) (ph HK))); replace BK142 := uD (blk_below (pk BK142) hb); replace BK152 := uD (blk_below (pk BK152) hb); replace HK := uD (KeepBut.trans (ph HK) (KeepBut.of_below hb g none) (.inl rfl)); replace HB := uD (uO (pB HB (IsS67.ge HI0.out)) hb); replace HI0 := uD (IsS67.below (IsS67.p HI0) hb); clear hb ho19; obtain ⟨Ao20, co20, eo20⟩ := Kd.R_slice HO158.out; subst eo20) | ((with_reducible refine gate_callee (f := 61) rfl ?_); refine gl (some 16) Tryd.func61 #[.pointer (some ⟨g, 0, none⟩), .slice Ao20 y156.length co20] ?_; (with_reducible refine (spec_l01PickInt.calls g s0_0 t154 t155 _ _ y156 t159 t160 t161 w0 _ ?side1 ?side2 ?side3 ?side4 ?side5 A17.out).mono ?_); (case side1 => exact IsS67.p HI0); (case side2 => exact pB HB (IsS67.ge HI0.out)); (case side3 => exact pc ((Kd.R_reads' HO158.out).2.2)); (case side4 => exact (Kd.R_reads' HO158.out).2.1); (case side5 => exact far_slice (IsS67.own_ne HI0.out HO158.out (by decide))); rintro e w21 ⟨rfl, hi, hb, hk⟩; refine ⟨_, rfl, ?_⟩; replace BK142 := uD (KeepBut.blk hk (pk BK142) NB142_0.out (by simp)); replace BK152 := uD (KeepBut.blk hk (pk BK152) NB152_0.out (by simp)); replace HO158 := uD (uX (Kd.R_keep (IsS67.apart (show IsS67 w0 _ g s0_0 t154 t155 from IsS67.p HI0) (pr HO158) (by decide)) hk (fun _ h => h.2)) (fun _ h => h.1)); replace HK := uD (KeepBut.trans (ph HK) hk (.inl rfl)); replace HB := uD (hb); replace HI0 := uD (hi); (try clear hb); (try clear hb2); (try clear hk); (try clear hi); have hnb22 := NB152_142.out; have hnc22 := NB142_152.out; have hnb23 := NB152_0.out; have hnc23 := NB0_152.out; obtain ⟨hcz24_0, hcz24_1, hcz24_2, hfz24_0, hfz24_1, hfz24_2⟩ := cz3 BK152))
   go_meet
   case rel => exact ⟨_, (t160), (t161), (t159), H', ⟨by first | omega | exact Nat.le_refl _⟩, ⟨by exact ps BK142⟩, ⟨by (with_reducible repeat first|apply uH|apply uJ|apply uG); refine uP (cs := #[.int .i64 t143, .int .i64 (wrap64 (1 + t146)), .int .i64 t149]) ?_ 2 _ rfl; (with_reducible repeat first|apply uH|apply uJ|apply uG); exact BK152.out⟩, ⟨IsS67.p HI0⟩, ⟨ph HK⟩, ⟨pB HB (IsS67.ge HI0.out)⟩⟩
  ·replace c16 := Bool.eq_false_iff.mpr c16
   subst c16
   have H1 : (spec_l01Tag.j0 k s0_0 t154 t155 t143 (wrap64 (1 + t146)) t149) = some (r1, r2, r3, r4, r5) := by rw [if_neg (show ¬ (false = true) by decide)] at H; first | done | exact H
   clear H
   have H := H1
   clear H1
   have H' := uD H
   clear H
   go_wp2
   go_meet
   case rel => exact ⟨_, (t154), (t155), (t149), H', ⟨by first | omega | exact Nat.le_refl _⟩, ⟨by (with_reducible repeat first|apply uH|apply uJ|apply uG); exact BK142.out⟩, ⟨by (with_reducible repeat first|apply uH|apply uJ|apply uG); exact BK152.out⟩, ⟨IsS67.p HI0⟩, ⟨ph HK⟩, ⟨pB HB (IsS67.ge HI0.out)⟩⟩
 case rest =>
  clear HC6
  try clear c1
  try clear c2
  try clear p2
  try clear c5
  try clear c6
  try clear p6
  try clear c12
  try clear c13
  try clear c16
  try clear c22
  try clear c23
  try clear hcz14_0
  try clear hcz14_1
  try clear hcz14_2
  try clear hcz24_0
  try clear hcz24_1
  try clear hcz24_2
  try clear hfz14_0
  try clear hfz14_1
  try clear hfz14_2
  try clear hfz24_0
  try clear hfz24_1
  try clear hfz24_2
  obtain ⟨kq, x1001_5, x1002_5, x153002_5, HA, HJ5, BK142, BK152, HI0, HK, HB⟩ := hcut
  cases kq with
  | zero => exact absurd HA.out (by simp [spec_l01Tag.j0])
  | succ kj5 =>
   have H := HA.out
   clear HA
   simp only [spec_l01Tag.j0] at H
   replace H := Option.bind_eq_some_iff.mp H
   obtain ⟨⟨t162, t163, t164⟩, A250, H⟩ := H
   replace H : (if t162 = true then ((spec_l01PickInt.f s0_0 t163 t164 (([1, 7, 999] : List Int))).bind fun bt168 => (some (t143, bt168.1, x153002_5, bt168.2.1, bt168.2.2))) else (some (t143, (wrap64 (1 + t146)), x153002_5, t163, t164))) = some (r1, r2, r3, r4, r5) := H
   have A25 := uD A250
   clear A250
   by_cases c26 : t162 = true
   ·subst c26
    have H1 : ((spec_l01PickInt.f s0_0 t163 t164 (([1, 7, 999] : List Int))).bind fun bt168 => (some (t143, bt168.1, x153002_5, bt168.2.1, bt168.2.2))) = some (r1, r2, r3, r4, r5) := by rw [if_pos rfl] at H; first | done | exact H
    clear H
    have H := H1
    clear H1
    obtain ⟨y165, hy165⟩ : ∃ y_ : List Int, y_ = (([1, 7, 999] : List Int)) := ⟨_, rfl⟩
    replace H : ((spec_l01PickInt.f s0_0 t163 t164 y165).bind fun bt168 => (some (t143, bt168.1, x153002_5, bt168.2.1, bt168.2.2))) = some (r1, r2, r3, r4, r5) := by first | (rw [hy165]; with_reducible exact H) | (have H2_ := (Option.bind_some _ _).symm.trans H; rw [hy165]; with_reducible exact H2_) | (have H2_ := (Option.bind_some _ _).symm.trans H; with_reducible exact H2_) | with_reducible exact H | (rw [hy165]; exact H) | exact H
    have Ny165 := uD hy165
    clear hy165
    replace H := Option.bind_eq_some_iff.mp H
    obtain ⟨⟨t168, t169, t170⟩, A270, H⟩ := H
    replace H : (some (t143, t168, x153002_5, t169, t170)) = some (r1, r2, r3, r4, r5) := H
    have A27 := uD A270
    clear A270
    simp only [Option.some.injEq, Prod.mk.injEq] at H
    obtain ⟨rfl, rfl, rfl, rfl, rfl⟩ := H
    go_wp2_with (first | ((with_reducible refine gate_callee (f := 56) rfl ?_); refine gl (some 19) Tryd.func56 #[.pointer (some ⟨g, 0, none⟩), .int .i64 12] ?_; (with_reducible refine (spec_l01Once.calls g s0_0 x1001_5 x1002_5 12 true t163 t164 w0 _ ?side1 ?side2 A25.out).mono ?_); (case side1 => exact IsS67.p HI0); (case side2 => exact pB HB (IsS67.ge HI0.out)); rintro e w28 ⟨rfl, hi, hb, hk⟩; refine ⟨_, rfl, ?_⟩; replace BK142 := uD (KeepBut.blk hk (pk BK142) NB142_0.out (by simp)); replace BK152 := uD (KeepBut.blk hk (pk BK152) NB152_0.out (by simp)); replace HK := uD (KeepBut.trans (ph HK) hk (.inl rfl)); replace HB := uD (hb); replace HI0 := uD (hi); (try clear hb); (try clear hb2); (try clear hk); (try clear hi)) | ((with_reducible refine gate_dst (N := 21) rfl ?_); refine Kd.R_lit (Kd.int .i64) _ 3 ?hg (N := 21) ?hd (xs := ([1, 7, 999] : List Int)) (inner := [.int .i64 1, .int .i64 7, .int .i64 999]) (ok := fun _ => True) (okp := fun _ => True) ?hr ?hp (fun _ hk => hk) trivial (Below.refl _ _) (Nat.le_refl _) (by simp) ?_; (case hd => rfl); (case hg => rfl); (case hr => first | (go_simp; done) | (go_simp; rfl)); (case hp => exact (Reps.one (show Kd.M (Kd.int .i64) _ _ _ 1 [.int .i64 1] from rfl) (Reps.one (show Kd.M (Kd.int .i64) _ _ _ 7 [.int .i64 7] from rfl) (Reps.one (show Kd.M (Kd.int .i64) _ _ _ 999 [.int .i64 999] from rfl) (Reps.none _ _))))); intro v166 w29 ho30 hb hg_ hnew_; clear hg_ hnew_; (first | rw [← Ny165.out] at ho30 | (simp only [Int.reduceToNat] at ho30; rw [← Ny165.out] at ho30)); have HO167 := uD (Kd.R_lower ho30 (keep_size (w := w) (g := g) (row := none) (ph HK))); replace BK142 := uD (blk_below (pk BK142) hb); replace BK152 := uD (blk_below (pk BK152) hb); replace HK := uD (KeepBut.trans (ph HK) (KeepBut.of_below hb g none) (.inl rfl)); replace HB := uD (uO (pB HB (IsS67.ge HI0.out)) hb); replace HI0 := uD (IsS67.below (IsS67.p HI0) hb); clear hb ho30; obtain ⟨Ao31, co31, eo31⟩ := Kd.R_slice HO167.out; subst eo31) | ((with_reducible refine gate_callee (f := 61) rfl ?_); refine gl (some 22) Tryd.func61 #[.pointer (some ⟨g, 0, none⟩), .slice Ao31 y165.length co31] ?_; (with_reducible refine (spec_l01PickInt.calls g s0_0 t163 t164 _ _ y165 t168 t169 t170 w0 _ ?side1 ?side2 ?side3 ?side4 ?side5 A27.out).mono ?_); (case side1 => exact IsS67.p HI0); (case side2 => exact pB HB (IsS67.ge HI0.out)); (case side3 => exact pc ((Kd.R_reads' HO167.out).2.2)); (case side4 => exact (Kd.R_reads' HO167.out).2.1); (case side5 => exact far_slice (IsS67.own_ne HI0.out HO167.out (by decide))); rintro e w32 ⟨rfl, hi, hb, hk⟩; refine ⟨_, rfl, ?_⟩; replace BK142 := uD (KeepBut.blk hk (pk BK142) NB142_0.out (by simp)); replace BK152 := uD (KeepBut.blk hk (pk BK152) NB152_0.out (by simp)); replace HO167 := uD (uX (Kd.R_keep (IsS67.apart (show IsS67 w0 _ g s0_0 t163 t164 from IsS67.p HI0) (pr HO167) (by decide)) hk (fun _ h => h.2)) (fun _ h => h.1)); replace HK := uD (KeepBut.trans (ph HK) hk (.inl rfl)); replace HB := uD (hb); replace HI0 := uD (hi); (try clear hb); (try clear hb2); (try clear hk); (try clear hi); have hnb33 := NB152_142.out; have hnc33 := NB142_152.out; have hnb34 := NB152_0.out; have hnc34 := NB0_152.out; obtain ⟨hcz35_0, hcz35_1, hcz35_2, hfz35_0, hfz35_1, hfz35_2⟩ := cz3 BK152; have hnb36 := NB142_0.out; have hnc36 := NB0_142.out; obtain ⟨hcz37_0, hcz37_1, hcz37_2, hfz37_0, hfz37_1, hfz37_2⟩ := cz3 BK142))
    refine bodyPost_ret (results_cell_row rfl _ _ gb142 25 #[.int .i64 t143, .int .i64 t168, .int .i64 x153002_5] (0, 0) _ rfl (by (with_reducible repeat first|apply uH|apply uJ|apply uG); refine uP (cs := #[.int .i64 t143, .int .i64 t168, .int .i64 0]) ?_ 2 _ rfl; (with_reducible repeat first|apply uH|apply uJ|apply uG); refine uP (cs := #[.int .i64 t143, .int .i64 0, .int .i64 0]) ?_ 1 _ rfl; (with_reducible repeat first|apply uH|apply uJ|apply uG); refine uP (cs := #[.int .i64 0, .int .i64 0, .int .i64 0]) ?_ 0 _ rfl; exact ps BK142) Tryd.underlying25 rfl (by kernel_rfl)) rfl ?_
    exact ⟨by first | rfl | (simp [errW_none, errW_some] <;> rfl) | (simp [*, errW_none, errW_some] <;> rfl), IsS67.p HI0, pB HB (IsS67.ge HI0.out), ph HK⟩
   ·replace c26 := Bool.eq_false_iff.mpr c26
    subst c26
    have H1 : (some (t143, (wrap64 (1 + t146)), x153002_5, t163, t164)) = some (r1, r2, r3, r4, r5) := by rw [if_neg (show ¬ (false = true) by decide)] at H; first | done | exact H
    clear H
    have H := H1
    clear H1
    simp only [Option.some.injEq, Prod.mk.injEq] at H
    obtain ⟨rfl, rfl, rfl, rfl, rfl⟩ := H
    go_wp2_with (first | ((with_reducible refine gate_callee (f := 56) rfl ?_); refine gl (some 19) Tryd.func56 #[.pointer (some ⟨g, 0, none⟩), .int .i64 12] ?_; (with_reducible refine (spec_l01Once.calls g s0_0 x1001_5 x1002_5 12 false t163 t164 w0 _ ?side1 ?side2 A25.out).mono ?_); (case side1 => exact IsS67.p HI0); (case side2 => exact pB HB (IsS67.ge HI0.out)); rintro e w38 ⟨rfl, hi, hb, hk⟩; refine ⟨_, rfl, ?_⟩; replace BK142 := uD (KeepBut.blk hk (pk BK142) NB142_0.out (by simp)); replace BK152 := uD (KeepBut.blk hk (pk BK152) NB152_0.out (by simp)); replace HK := uD (KeepBut.trans (ph HK) hk (.inl rfl)); replace HB := uD (hb); replace HI0 := uD (hi); (try clear hb); (try clear hb2); (try clear hk); (try clear hi); have hnb39 := NB152_142.out; have hnc39 := NB142_152.out; have hnb40 := NB152_0.out; have hnc40 := NB0_152.out; obtain ⟨hcz41_0, hcz41_1, hcz41_2, hfz41_0, hfz41_1, hfz41_2⟩ := cz3 BK152; have hnb42 := NB142_0.out; have hnc42 := NB0_142.out; obtain ⟨hcz43_0, hcz43_1, hcz43_2, hfz43_0, hfz43_1, hfz43_2⟩ := cz3 BK142))
    refine bodyPost_ret (results_cell_row rfl _ _ gb142 25 #[.int .i64 t143, .int .i64 (wrap64 (1 + t146)), .int .i64 x153002_5] (0, 0) _ rfl (by (with_reducible repeat first|apply uH|apply uJ|apply uG); refine uP (cs := #[.int .i64 t143, .int .i64 (wrap64 (1 + t146)), .int .i64 0]) ?_ 2 _ rfl; (with_reducible repeat first|apply uH|apply uJ|apply uG); refine uP (cs := #[.int .i64 t143, .int .i64 0, .int .i64 0]) ?_ 1 _ rfl; (with_reducible repeat first|apply uH|apply uJ|apply uG); refine uP (cs := #[.int .i64 0, .int .i64 0, .int .i64 0]) ?_ 0 _ rfl; (with_reducible repeat first|apply uH|apply uJ|apply uG); exact BK142.out) Tryd.underlying25 rfl (by kernel_rfl)) rfl ?_
    exact ⟨by first | rfl | (simp [errW_none, errW_some] <;> rfl) | (simp [*, errW_none, errW_some] <;> rfl), IsS67.p HI0, pB HB (IsS67.ge HI0.out), ph HK⟩

/-! ### spec_l01AnyTag: function 49 -/
def spec_l01AnyTag.f (k : Nat) (s0_0 : List Int) (s0_1 : Int) (s0_2 : Int) : Option (Int × Int × Int × Int × Int) := (spec_l01Tag.f k s0_0 s0_1 s0_2).bind fun bt172 => ((spec_l01Below.f s0_0 bt172.2.2.2.1 bt172.2.2.2.2 14).bind fun bt178 => (if bt178.1 = 0 then ((spec_l01PickInt.f s0_0 bt178.2.1 bt178.2.2 (([(-1), 10, 9] : List Int))).bind fun bt184 => (some (bt184.1, bt172.2.1, bt172.2.2.1, bt184.2.1, bt184.2.2))) else (if bt178.1 = 1 then ((spec_l01PickInt.f s0_0 bt178.2.1 bt178.2.2 (([0, (-1), 1000] : List Int))).bind fun bt190 => (some (bt172.1, bt190.1, bt172.2.2.1, bt190.2.1, bt190.2.2))) else (if bt178.1 = 2 then ((spec_l01PickInt.f s0_0 bt178.2.1 bt178.2.2 (([(-1), 1000000, 9223372036854775807] : List Int))).bind fun bt196 => (some (bt172.1, bt172.2.1, bt196.1, bt196.2.1, bt196.2.2))) else (some (bt172.1, bt172.2.1, bt172.2.2.1, bt178.2.1, bt178.2.2))))))
theorem spec_l01AnyTag.mono : ∀ a0 a1 a2 k, LeO (spec_l01AnyTag.f k a0 a1 a2) (spec_l01AnyTag.f (k + 1) a0 a1 a2) := by
 intro a0 a1 a2 k
 unfold spec_l01AnyTag.f
 repeat' first
   | (with_reducible exact spec_l01Tag.mono _ _ _ _)
   | (with_reducible exact LeO.refl _)
   | (with_reducible exact LeO.none _)
   | (with_reducible refine LeO.ite ?_ ?_)
   | (with_reducible refine LeO.bind ?_ (fun _ => ?_))
   | exact spec_l01Tag.mono _ _ _ _
   | exact LeO.none _
   | refine LeO.ite ?_ ?_
   | refine LeO.bind ?_ (fun _ => ?_)
set_option maxHeartbeats 8000000 in
set_option maxRecDepth 100000 in
theorem spec_l01AnyTag.calls (k : Nat) (g : Nat) (s0_0 : List Int) (s0_1 : Int) (s0_2 : Int) (r1 : Int) (r2 : Int) (r3 : Int) (r4 : Int) (r5 : Int) (w0 w : World) (hI : IsS67 w0 w g s0_0 s0_1 s0_2) (hB : Below w0.heap.size w0 w) (h : spec_l01AnyTag.f k s0_0 s0_1 s0_2 = some (r1, r2, r3, r4, r5)) :
  Calls Tryd.prog 49 #[.pointer (some ⟨g, 0, none⟩)] w fun e w' => e = .returned (.agg #[.int .i64 r1, .int .i64 r2, .int .i64 r3]) ∧ IsS67 w0 w' g s0_0 r4 r5 ∧ Below w0.heap.size w0 w' ∧ KeepBut w w' g none := by
 have hu25 := Tryd.underlying25
 have HI0 := uD hI
 have HK := uD (KeepBut.refl w g none)
 have HL := uD hB.size
 clear hI
 have HW0 := uD hB.size
 have HB := uD hB
 clear hB
 have H : ((spec_l01Tag.f k s0_0 s0_1 s0_2).bind fun bt172 => ((spec_l01Below.f s0_0 bt172.2.2.2.1 bt172.2.2.2.2 14).bind fun bt178 => (if bt178.1 = 0 then ((spec_l01PickInt.f s0_0 bt178.2.1 bt178.2.2 (([(-1), 10, 9] : List Int))).bind fun bt184 => (some (bt184.1, bt172.2.1, bt172.2.2.1, bt184.2.1, bt184.2.2))) else (if bt178.1 = 1 then ((spec_l01PickInt.f s0_0 bt178.2.1 bt178.2.2 (([0, (-1), 1000] : List Int))).bind fun bt190 => (some (bt172.1, bt190.1, bt172.2.2.1, bt190.2.1, bt190.2.2))) else (if bt178.1 = 2 then ((spec_l01PickInt.f s0_0 bt178.2.1 bt178.2.2 (([(-1), 1000000, 9223372036854775807] : List Int))).bind fun bt196 => (some (bt172.1, bt172.2.1, bt196.1, bt196.2.1, bt196.2.2))) else (some (bt172.1, bt172.2.1, bt172.2.2.1, bt178.2.1, bt178.2.2))))))) = some (r1, r2, r3, r4, r5) := h
 clear h
 replace H := Option.bind_eq_some_iff.mp H
 obtain ⟨⟨t172, t173, t174, t175, t176⟩, A20, H⟩ := H
 replace H : ((spec_l01Below.f s0_0 t175 t176 14).bind fun bt178 => (if bt178.1 = 0 then ((spec_l01PickInt.f s0_0 bt178.2.1 bt178.2.2 (([(-1), 10, 9] : List Int))).bind fun bt184 => (some (bt184.1, t173, t174, bt184.2.1, bt184.2.2))) else (if bt178.1 = 1 then ((spec_l01PickInt.f s0_0 bt178.2.1 bt178.2.2 (([0, (-1), 1000] : List Int))).bind fun bt190 => (some (t172, bt190.1, t174, bt190.2.1, bt190.2.2))) else (if bt178.1 = 2 then ((spec_l01PickInt.f s0_0 bt178.2.1 bt178.2.2 (([(-1), 1000000, 9223372036854775807] : List Int))).bind fun bt196 => (some (t172, t173, bt196.1, bt196.2.1, bt196.2.2))) else (some (t172, t173, t174, bt178.2.1, bt178.2.2)))))) = some (r1, r2, r3, r4, r5) := H
 have A2 := uD A20
 clear A20
 replace H := Option.bind_eq_some_iff.mp H
 obtain ⟨⟨t178, t179, t180⟩, A30, H⟩ := H
 replace H : (if t178 = 0 then ((spec_l01PickInt.f s0_0 t179 t180 (([(-1), 10, 9] : List Int))).bind fun bt184 => (some (bt184.1, t173, t174, bt184.2.1, bt184.2.2))) else (if t178 = 1 then ((spec_l01PickInt.f s0_0 t179 t180 (([0, (-1), 1000] : List Int))).bind fun bt190 => (some (t172, bt190.1, t174, bt190.2.1, bt190.2.2))) else (if t178 = 2 then ((spec_l01PickInt.f s0_0 t179 t180 (([(-1), 1000000, 9223372036854775807] : List Int))).bind fun bt196 => (some (t172, t173, bt196.1, bt196.2.1, bt196.2.2))) else (some (t172, t173, t174, t179, t180))))) = some (r1, r2, r3, r4, r5) := H
 have A3 := uD A30
 clear A30
 by_cases c4 : t178 = 0
 ·rw [if_pos c4] at H
  have c4b0 : (t178 == 0) = true := beq_iff_eq.mpr c4
  have c4b1 : (t178 != 0) = false := bne_eq_false_iff_eq.mpr c4
  clear c4
  obtain ⟨y181, hy181⟩ : ∃ y_ : List Int, y_ = (([(-1), 10, 9] : List Int)) := ⟨_, rfl⟩
  replace H : ((spec_l01PickInt.f s0_0 t179 t180 y181).bind fun bt184 => (some (bt184.1, t173, t174, bt184.2.1, bt184.2.2))) = some (r1, r2, r3, r4, r5) := by first | (rw [hy181]; with_reducible exact H) | (have H2_ := (Option.bind_some _ _).symm.trans H; rw [hy181]; with_reducible exact H2_) | (have H2_ := (Option.bind_some _ _).symm.trans H; with_reducible exact H2_) | with_reducible exact H | (rw [hy181]; exact H) | exact H
  have Ny181 := uD hy181
  clear hy181
  replace H := Option.bind_eq_some_iff.mp H
  obtain ⟨⟨t184, t185, t186⟩, A50, H⟩ := H
  replace H : (some (t184, t173, t174, t185, t186)) = some (r1, r2, r3, r4, r5) := H
  have A5 := uD A50
  clear A50
  simp only [Option.some.injEq, Prod.mk.injEq] at H
  obtain ⟨rfl, rfl, rfl, rfl, rfl⟩ := H
  go_enter Tryd.func49, Tryd.ntmps49
  go_wp2_with (first | ((with_reducible refine gate_dst (N := 2) rfl ?_); refine bx 2 #[.int .i64 0, .int .i64 0, .int .i64 0] 25 ?_; intro gb171 hg w6 hbox hb; replace HB := uD (uO (pB HB (IsS67.ge HI0.out)) hb); have BK171 := uD (hbox); have GW171 := uD ((by rw [hg]; exact (keep_size (w := w) (g := g) (row := none) (ph HK)) : w.heap.size ≤ gb171)); have GE171 := uD ((Nat.le_trans HW0.out (by rw [hg]; exact (keep_size (w := w) (g := g) (row := none) (ph HK)) : w.heap.size ≤ gb171) : w0.heap.size ≤ gb171)); replace HK := uD (KeepBut.trans (ph HK) (KeepBut.of_below hb g none) (.inl rfl)); have NB0_171 := uD ((by rw [hg]; exact Nat.ne_of_lt (IsS67.lt (show IsS67 w0 _ g s0_0 s0_1 s0_2 from IsS67.p HI0)) : g ≠ gb171)); have NB171_0 := uD ((by rw [hg]; exact Nat.ne_of_gt (IsS67.lt (show IsS67 w0 _ g s0_0 s0_1 s0_2 from IsS67.p HI0)) : gb171 ≠ g)); replace HI0 := uD (IsS67.below (IsS67.p HI0) hb); clear hb hbox hg) | ((with_reducible refine gate_callee (f := 53) rfl ?_); refine gl (some 5) Tryd.func53 #[.pointer (some ⟨g, 0, none⟩)] ?_; (with_reducible refine (spec_l01Tag.calls k g s0_0 s0_1 s0_2 t172 t173 t174 t175 t176 w0 _ ?side1 ?side2 A2.out).mono ?_); (case side1 => exact IsS67.p HI0); (case side2 => exact pB HB (IsS67.ge HI0.out)); rintro e w7 ⟨rfl, hi, hb, hk⟩; refine ⟨_, rfl, ?_⟩; replace BK171 := uD (KeepBut.blk hk (pk BK171) NB171_0.out (by simp)); replace HK := uD (KeepBut.trans (ph HK) hk (.inl rfl)); replace HB := uD (hb); replace HI0 := uD (hi); (try clear hb); (try clear hb2); (try clear hk); (try clear hi)) | ((with_reducible refine gate_dst (N := 3) rfl ?_); refine bx 3 #[.int .i64 0, .int .i64 0, .int .i64 0] 25 ?_; intro gb177 hg w8 hbox hb; replace HB := uD (uO (pB HB (IsS67.ge HI0.out)) hb); have BK177 := uD (hbox); have GW177 := uD ((by rw [hg]; exact (keep_size (w := w) (g := g) (row := none) (ph HK)) : w.heap.size ≤ gb177)); have GE177 := uD ((Nat.le_trans HW0.out (by rw [hg]; exact (keep_size (w := w) (g := g) (row := none) (ph HK)) : w.heap.size ≤ gb177) : w0.heap.size ≤ gb177)); replace HK := uD (KeepBut.trans (ph HK) (KeepBut.of_below hb g none) (.inl rfl)); have NB171_177 := uD ((by rw [hg]; exact Nat.ne_of_lt (blk_lt (pk BK171)) : gb171 ≠ gb177)); have NB177_171 := uD ((by rw [hg]; exact Nat.ne_of_gt (blk_lt (pk BK171)) : gb177 ≠ gb171)); replace BK171 := uD (blk_below (pk BK171) hb); have NB0_177 := uD ((by rw [hg]; exact Nat.ne_of_lt (IsS67.lt (show IsS67 w0 _ g s0_0 t175 t176 from IsS67.p HI0)) : g ≠ gb177)); have NB177_0 := uD ((by rw [hg]; exact Nat.ne_of_gt (IsS67.lt (show IsS67 w0 _ g s0_0 t175 t176 from IsS67.p HI0)) : gb177 ≠ g)); replace HI0 := uD (IsS67.below (IsS67.p HI0) hb); clear hb hbox hg; have hnb9 := NB177_171.out; have hnc9 := NB171_177.out; have hnb10 := NB177_0.out; have hnc10 := NB0_177.out; obtain ⟨hcz11_0, hcz11_1, hcz11_2, hfz11_0, hfz11_1, hfz11_2⟩ := cz3 BK177) | ((with_reducible refine gate_callee (f := 57) rfl ?_); refine gl (some 7) Tryd.func57 #[.pointer (some ⟨g, 0, none⟩), .int .i64 14] ?_; (with_reducible refine (spec_l01Below.calls g s0_0 t175 t176 14 t178 t179 t180 w0 _ ?side1 ?side2 A3.out).mono ?_); (case side1 => exact IsS67.p HI0); (case side2 => exact pB HB (IsS67.ge HI0.out)); rintro e w12 ⟨rfl, hi, hb, hk⟩; refine ⟨_, rfl, ?_⟩; replace BK171 := uD (KeepBut.blk hk (g' := gb171) (o := .cells #[.int .i64 0, .int .i64 0, .int .i64 0] 25 (0, 0)) (by exact ps BK171) NB171_0.out (by simp)); replace BK177 := uD (KeepBut.blk hk (g' := gb177) (o := .cells #[.int .i64 t172, .int .i64 t173, .int .i64 t174] 25 (0, 0)) (by (with_reducible repeat first|apply uH|apply uJ|apply uG); refine uP (cs := #[.int .i64 t172, .int .i64 t173, .int .i64 0]) ?_ 2 _ rfl; (with_reducible repeat first|apply uH|apply uJ|apply uG); refine uP (cs := #[.int .i64 t172, .int .i64 0, .int .i64 0]) ?_ 1 _ rfl; (with_reducible repeat first|apply uH|apply uJ|apply uG); refine uP (cs := #[.int .i64 0, .int .i64 0, .int .i64 0]) ?_ 0 _ rfl; (with_reducible repeat first|apply uH|apply uJ|apply uG); exact BK177.out) NB177_0.out (by simp)); replace HK := uD (KeepBut.trans (ph HK) hk (.inl rfl)); replace HB := uD (hb); replace HI0 := uD (hi); (try clear hb); (try clear hb2); (try clear hk); (try clear hi)) | ((with_reducible refine gate_dst (N := 11) rfl ?_); refine Kd.R_lit (Kd.int .i64) _ 3 ?hg (N := 11) ?hd (xs := ([(-1), 10, 9] : List Int)) (inner := [.int .i64 (-1), .int .i64 10, .int .i64 9]) (ok := fun _ => True) (okp := fun _ => True) ?hr ?hp (fun _ hk => hk) trivial (Below.refl _ _) (Nat.le_refl _) (by simp) ?_; (case hd => rfl); (case hg => rfl); (case hr => first | (go_simp; done) | (go_simp; rfl)); (case hp => exact (Reps.one (show Kd.M (Kd.int .i64) _ _ _ (-1) [.int .i64 (-1)] from rfl) (Reps.one (show Kd.M (Kd.int .i64) _ _ _ 10 [.int .i64 10] from rfl) (Reps.one (show Kd.M (Kd.int .i64) _ _ _ 9 [.int .i64 9] from rfl) (Reps.none _ _))))); intro v182 w13 ho14 hb hg_ hnew_; clear hg_ hnew_; (first | rw [← Ny181.out] at ho14 | (simp only [Int.reduceToNat] at ho14; rw [← Ny181.out] at ho14)); have HO183 := uD (Kd.R_lower ho14 (keep_size (w := w) (g := g) (row := none) (ph HK))); replace BK171 := uD (blk_below (pk BK171) hb); replace BK177 := uD (blk_below (pk BK177) hb); replace HK := uD (KeepBut.trans (ph HK) (KeepBut.of_below hb g none) (.inl rfl)); replace HB := uD (uO (pB HB (IsS67.ge HI0.out)) hb); replace HI0 := uD (IsS67.below (IsS67.p HI0) hb); clear hb ho14; obtain ⟨Ao15, co15, eo15⟩ := Kd.R_slice HO183.out; subst eo15) | ((with_reducible refine gate_callee (f := 61) rfl ?_); refine gl (some 12) Tryd.func61 #[.pointer (some ⟨g, 0, none⟩), .slice Ao15 y181.length co15] ?_; (with_reducible refine (spec_l01PickInt.calls g s0_0 t179 t180 _ _ y181 t184 t185 t186 w0 _ ?side1 ?side2 ?side3 ?side4 ?side5 A5.out).mono ?_); (case side1 => exact IsS67.p HI0); (case side2 => exact pB HB (IsS67.ge HI0.out)); (case side3 => exact pc ((Kd.R_reads' HO183.out).2.2)); (case side4 => exact (Kd.R_reads' HO183.out).2.1); (case side5 => exact far_slice (IsS67.own_ne HI0.out HO183.out (by decide))); rintro e w16 ⟨rfl, hi, hb, hk⟩; refine ⟨_, rfl, ?_⟩; replace BK171 := uD (KeepBut.blk hk (pk BK171) NB171_0.out (by simp)); replace BK177 := uD (KeepBut.blk hk (pk BK177) NB177_0.out (by simp)); replace HO183 := uD (uX (Kd.R_keep (IsS67.apart (show IsS67 w0 _ g s0_0 t179 t180 from IsS67.p HI0) (pr HO183) (by decide)) hk (fun _ h => h.2)) (fun _ h => h.1)); replace HK := uD (KeepBut.trans (ph HK) hk (.inl rfl)); replace HB := uD (hb); replace HI0 := uD (hi); (try clear hb); (try clear hb2); (try clear hk); (try clear hi); obtain ⟨hcz17_0, hcz17_1, hcz17_2, hfz17_0, hfz17_1, hfz17_2⟩ := cz3 BK177; have hnb18 := NB171_0.out; have hnc18 := NB0_171.out; obtain ⟨hcz19_0, hcz19_1, hcz19_2, hfz19_0, hfz19_1, hfz19_2⟩ := cz3 BK171))
  refine bodyPost_ret (results_cell_row rfl _ _ gb171 25 #[.int .i64 t184, .int .i64 t173, .int .i64 t174] (0, 0) _ rfl (by (with_reducible repeat first|apply uH|apply uJ|apply uG); refine uP (cs := #[.int .i64 t184, .int .i64 t173, .int .i64 0]) ?_ 2 _ rfl; (with_reducible repeat first|apply uH|apply uJ|apply uG); refine uP (cs := #[.int .i64 t184, .int .i64 0, .int .i64 0]) ?_ 1 _ rfl; (with_reducible repeat first|apply uH|apply uJ|apply uG); refine uP (cs := #[.int .i64 0, .int .i64 0, .int .i64 0]) ?_ 0 _ rfl; exact ps BK171) Tryd.underlying25 rfl (by kernel_rfl)) rfl ?_
  exact ⟨by first | rfl | (simp [errW_none, errW_some] <;> rfl) | (simp [*, errW_none, errW_some] <;> rfl), IsS67.p HI0, pB HB (IsS67.ge HI0.out), ph HK⟩
 ·rw [if_neg c4] at H
  have c4b0 : (t178 == 0) = false := beq_eq_false_iff_ne.mpr c4
  have c4b1 : (t178 != 0) = true := bne_iff_ne.mpr c4
  by_cases c20 : t178 = 1
  ·rw [if_pos c20] at H
   have c20b0 : (t178 == 1) = true := beq_iff_eq.mpr c20
   have c20b1 : (t178 != 1) = false := bne_eq_false_iff_eq.mpr c20
   clear c20
   obtain ⟨y187, hy187⟩ : ∃ y_ : List Int, y_ = (([0, (-1), 1000] : List Int)) := ⟨_, rfl⟩
   replace H : ((spec_l01PickInt.f s0_0 t179 t180 y187).bind fun bt190 => (some (t172, bt190.1, t174, bt190.2.1, bt190.2.2))) = some (r1, r2, r3, r4, r5) := by first | (rw [hy187]; with_reducible exact H) | (have H2_ := (Option.bind_some _ _).symm.trans H; rw [hy187]; with_reducible exact H2_) | (have H2_ := (Option.bind_some _ _).symm.trans H; with_reducible exact H2_) | with_reducible exact H | (rw [hy187]; exact H) | exact H
   have Ny187 := uD hy187
   clear hy187
   replace H := Option.bind_eq_some_iff.mp H
   obtain ⟨⟨t190, t191, t192⟩, A210, H⟩ := H
   replace H : (some (t172, t190, t174, t191, t192)) = some (r1, r2, r3, r4, r5) := H
   have A21 := uD A210
   clear A210
   simp only [Option.some.injEq, Prod.mk.injEq] at H
   obtain ⟨rfl, rfl, rfl, rfl, rfl⟩ := H
   go_enter Tryd.func49, Tryd.ntmps49
   go_wp2_with (first | ((with_reducible refine gate_dst (N := 2) rfl ?_); refine bx 2 #[.int .i64 0, .int .i64 0, .int .i64 0] 25 ?_; intro gb171 hg w22 hbox hb; replace HB := uD (uO (pB HB (IsS67.ge HI0.out)) hb); have BK171 := uD (hbox); have GW171 := uD ((by rw [hg]; exact (keep_size (w := w) (g := g) (row := none) (ph HK)) : w.heap.size ≤ gb171)); have GE171 := uD ((Nat.le_trans HW0.out (by rw [hg]; exact (keep_size (w := w) (g := g) (row := none) (ph HK)) : w.heap.size ≤ gb171) : w0.heap.size ≤ gb171)); replace HK := uD (KeepBut.trans (ph HK) (KeepBut.of_below hb g none) (.inl rfl)); have NB0_171 := uD ((by rw [hg]; exact Nat.ne_of_lt (IsS67.lt (show IsS67 w0 _ g s0_0 s0_1 s0_2 from IsS67.p HI0)) : g ≠ gb171)); have NB171_0 := uD ((by rw [hg]; exact Nat.ne_of_gt (IsS67.lt (show IsS67 w0 _ g s0_0 s0_1 s0_2 from IsS67.p HI0)) : gb171 ≠ g)); replace HI0 := uD (IsS67.below (IsS67.p HI0) hb); clear hb hbox hg) | ((with_reducible refine gate_callee (f := 53) rfl ?_); refine gl (some 5) Tryd.func53 #[.pointer (some ⟨g, 0, none⟩)] ?_; (with_reducible refine (spec_l01Tag.calls k g s0_0 s0_1 s0_2 t172 t173 t174 t175 t176 w0 _ ?side1 ?side2 A2.out).mono ?_); (case side1 => exact IsS67.p HI0); (case side2 => exact pB HB (IsS67.ge HI0.out)); rintro e w23 ⟨rfl, hi, hb, hk⟩; refine ⟨_, rfl, ?_⟩; replace BK171 := uD (KeepBut.blk hk (pk BK171) NB171_0.out (by simp)); replace HK := uD (KeepBut.trans (ph HK) hk (.inl rfl)); replace HB := uD (hb); replace HI0 := uD (hi); (try clear hb); (try clear hb2); (try clear hk); (try clear hi)) | ((with_reducible refine gate_dst (N := 3) rfl ?_); refine bx 3 #[.int .i64 0, .int .i64 0, .int .i64 0] 25 ?_; intro gb177 hg w24 hbox hb; replace HB := uD (uO (pB HB (IsS67.ge HI0.out)) hb); have BK177 := uD (hbox); have GW177 := uD ((by rw [hg]; exact (keep_size (w := w) (g := g) (row := none) (ph HK)) : w.heap.size ≤ gb177)); have GE177 := uD ((Nat.le_trans HW0.out (by rw [hg]; exact (keep_size (w := w) (g := g) (row := none) (ph HK)) : w.heap.size ≤ gb177) : w0.heap.size ≤ gb177)); replace HK := uD (KeepBut.trans (ph HK) (KeepBut.of_below hb g none) (.inl rfl)); have NB171_177 := uD ((by rw [hg]; exact Nat.ne_of_lt (blk_lt (pk BK171)) : gb171 ≠ gb177)); have NB177_171 := uD ((by rw [hg]; exact Nat.ne_of_gt (blk_lt (pk BK171)) : gb177 ≠ gb171)); replace BK171 := uD (blk_below (pk BK171) hb); have NB0_177 := uD ((by rw [hg]; exact Nat.ne_of_lt (IsS67.lt (show IsS67 w0 _ g s0_0 t175 t176 from IsS67.p HI0)) : g ≠ gb177)); have NB177_0 := uD ((by rw [hg]; exact Nat.ne_of_gt (IsS67.lt (show IsS67 w0 _ g s0_0 t175 t176 from IsS67.p HI0)) : gb177 ≠ g)); replace HI0 := uD (IsS67.below (IsS67.p HI0) hb); clear hb hbox hg; have hnb25 := NB177_171.out; have hnc25 := NB171_177.out; have hnb26 := NB177_0.out; have hnc26 := NB0_177.out; obtain ⟨hcz27_0, hcz27_1, hcz27_2, hfz27_0, hfz27_1, hfz27_2⟩ := cz3 BK177) | ((with_reducible refine gate_callee (f := 57) rfl ?_); refine gl (some 7) Tryd.func57 #[.pointer (some ⟨g, 0, none⟩), .int .i64 14] ?_; (with_reducible refine (spec_l01Below.calls g s0_0 t175 t176 14 t178 t179 t180 w0 _ ?side1 ?side2 A3.out).mono ?_); (case side1 => exact IsS67.p HI0); (case side2 => exact pB HB (IsS67.ge HI0.out)); rintro e w28 ⟨rfl, hi, hb, hk⟩; refine ⟨_, rfl, ?_⟩; replace BK171 := uD (KeepBut.blk hk (g' := gb171) (o := .cells #[.int .i64 0, .int .i64 0, .int .i64 0] 25 (0, 0)) (by exact ps BK171) NB171_0.out (by simp)); replace BK177 := uD (KeepBut.blk hk (g' := gb177) (o := .cells #[.int .i64 t172, .int .i64 t173, .int .i64 t174] 25 (0, 0)) (by (with_reducible repeat first|apply uH|apply uJ|apply uG); refine uP (cs := #[.int .i64 t172, .int .i64 t173, .int .i64 0]) ?_ 2 _ rfl; (with_reducible repeat first|apply uH|apply uJ|apply uG); refine uP (cs := #[.int .i64 t172, .int .i64 0, .int .i64 0]) ?_ 1 _ rfl; (with_reducible repeat first|apply uH|apply uJ|apply uG); refine uP (cs := #[.int .i64 0, .int .i64 0, .int .i64 0]) ?_ 0 _ rfl; (with_reducible repeat first|apply uH|apply uJ|apply uG); exact BK177.out) NB177_0.out (by simp)); replace HK := uD (KeepBut.trans (ph HK) hk (.inl rfl)); replace HB := uD (hb); replace HI0 := uD (hi); (try clear hb); (try clear hb2); (try clear hk); (try clear hi)) | ((with_reducible refine gate_dst (N := 17) rfl ?_); refine Kd.R_lit (Kd.int .i64) _ 3 ?hg (N := 17) ?hd (xs := ([0, (-1), 1000] : List Int)) (inner := [.int .i64 0, .int .i64 (-1), .int .i64 1000]) (ok := fun _ => True) (okp := fun _ => True) ?hr ?hp (fun _ hk => hk) trivial (Below.refl _ _) (Nat.le_refl _) (by simp) ?_; (case hd => rfl); (case hg => rfl); (case hr => first | (go_simp; done) | (go_simp; rfl)); (case hp => exact (Reps.one (show Kd.M (Kd.int .i64) _ _ _ 0 [.int .i64 0] from rfl) (Reps.one (show Kd.M (Kd.int .i64) _ _ _ (-1) [.int .i64 (-1)] from rfl) (Reps.one (show Kd.M (Kd.int .i64) _ _ _ 1000 [.int .i64 1000] from rfl) (Reps.none _ _))))); intro v188 w29 ho30 hb hg_ hnew_; clear hg_ hnew_; (first | rw [← Ny187.out] at ho30 | (simp only [Int.reduceToNat] at ho30; rw [← Ny187.out] at ho30)); have HO189 := uD (Kd.R_lower ho30 (keep_size (w := w) (g := g) (row := none) (ph HK))); replace BK171 := uD (blk_below (pk BK171) hb); replace BK177 := uD (blk_below (pk BK177) hb); replace HK := uD (KeepBut.trans (ph HK) (KeepBut.of_below hb g none) (.inl rfl)); replace HB := uD (uO (pB HB (IsS67.ge HI0.out)) hb); replace HI0 := uD (IsS67.below (IsS67.p HI0) hb); clear hb ho30; obtain ⟨Ao31, co31, eo31⟩ := Kd.R_slice HO189.out; subst eo31) | ((with_reducible refine gate_callee (f := 61) rfl ?_); refine gl (some 18) Tryd.func61 #[.pointer (some ⟨g, 0, none⟩), .slice Ao31 y187.length co31] ?_; (with_reducible refine (spec_l01PickInt.calls g s0_0 t179 t180 _ _ y187 t190 t191 t192 w0 _ ?side1 ?side2 ?side3 ?side4 ?side5 A21.out).mono ?_); (case side1 => exact IsS67.p HI0); (case side2 => exact pB HB (IsS67.ge HI0.out)); (case side3 => exact pc ((Kd.R_reads' HO189.out).2.2)); (case side4 => exact (Kd.R_reads' HO189.out).2.1); (case side5 => exact far_slice (IsS67.own_ne HI0.out HO189.out (by decide))); rintro e w32 ⟨rfl, hi, hb, hk⟩; refine ⟨_, rfl, ?_⟩; replace BK171 := uD (KeepBut.blk hk (pk BK171) NB171_0.out (by simp)); replace BK177 := uD (KeepBut.blk hk (pk BK177) NB177_0.out (by simp)); replace HO189 := uD (uX (Kd.R_keep (IsS67.apart (show IsS67 w0 _ g s0_0 t179 t180 from IsS67.p HI0) (pr HO189) (by decide)) hk (fun _ h => h.2)) (fun _ h => h.1)); replace HK := uD (KeepBut.trans (ph HK) hk (.inl rfl)); replace HB := uD (hb); replace HI0 := uD (hi); (try clear hb); (try clear hb2); (try clear hk); (try clear hi); obtain ⟨hcz33_0, hcz33_1, hcz33_2, hfz33_0, hfz33_1, hfz33_2⟩ := cz3 BK177; have hnb34 := NB171_0.out; have hnc34 := NB0_171.out; obtain ⟨hcz35_0, hcz35_1, hcz35_2, hfz35_0, hfz35_1, hfz35_2⟩ := cz3 BK171))
   refine bodyPost_ret (results_cell_row rfl _ _ gb171 25 #[.int .i64 t172, .int .i64 t190, .int .i64 t174] (0, 0) _ rfl (by (with_reducible repeat first|apply uH|apply uJ|apply uG); refine uP (cs := #[.int .i64 t172, .int .i64 t190, .int .i64 0]) ?_ 2 _ rfl; (with_reducible repeat first|apply uH|apply uJ|apply uG); refine uP (cs := #[.int .i64 t172, .int .i64 0, .int .i64 0]) ?_ 1 _ rfl; (with_reducible repeat first|apply uH|apply uJ|apply uG); refine uP (cs := #[.int .i64 0, .int .i64 0, .int .i64 0]) ?_ 0 _ rfl; exact ps BK171) Tryd.underlying25 rfl (by kernel_rfl)) rfl ?_
   exact ⟨by first | rfl | (simp [errW_none, errW_some] <;> rfl) | (simp [*, errW_none, errW_some] <;> rfl), IsS67.p HI0, pB HB (IsS67.ge HI0.out), ph HK⟩
  ·rw [if_neg c20] at H
   have c20b0 : (t178 == 1) = false := beq_eq_false_iff_ne.mpr c20
   have c20b1 : (t178 != 1) = true := bne_iff_ne.mpr c20
   by_cases c36 : t178 = 2
   ·rw [if_pos c36] at H
    have c36b0 : (t178 == 2) = true := beq_iff_eq.mpr c36
    have c36b1 : (t178 != 2) = false := bne_eq_false_iff_eq.mpr c36
    clear c36
    obtain ⟨y193, hy193⟩ : ∃ y_ : List Int, y_ = (([(-1), 1000000, 9223372036854775807] : List Int)) := ⟨_, rfl⟩
    replace H : ((spec_l01PickInt.f s0_0 t179 t180 y193).bind fun bt196 => (some (t172, t173, bt196.1, bt196.2.1, bt196.2.2))) = some (r1, r2, r3, r4, r5) := by first | (rw [hy193]; with_reducible exact H) | (have H2_ := (Option.bind_some _ _).symm.trans H; rw [hy193]; with_reducible exact H2_) | (have H2_ := (Option.bind_some _ _).symm.trans H; with_reducible exact H2_) | with_reducible exact H | (rw [hy193]; exact H) | exact H
    have Ny193 := uD hy193
    clear hy193
    replace H := Option.bind_eq_some_iff.mp H
    obtain ⟨⟨t196, t197, t198⟩, A370, H⟩ := H
    replace H : (some (t172, t173, t196, t197, t198)) = some (r1, r2, r3, r4, r5) := H
    have A37 := uD A370
    clear A370
    simp only [Option.some.injEq, Prod.mk.injEq] at H
    obtain ⟨rfl, rfl, rfl, rfl, rfl⟩ := H
    go_enter Tryd.func49, Tryd.ntmps49
    go_wp2_with (first | ((with_reducible refine gate_dst (N := 2) rfl ?_); refine bx 2 #[.int .i64 0, .int .i64 0, .int .i64 0] 25 ?_; intro gb171 hg w38 hbox hb; replace HB := uD (uO (pB HB (IsS67.ge HI0.out)) hb); have BK171 := uD (hbox); have GW171 := uD ((by rw [hg]; exact (keep_size (w := w) (g := g) (row := none) (ph HK)) : w.heap.size ≤ gb171)); have GE171 := uD ((Nat.le_trans HW0.out (by rw [hg]; exact (keep_size (w := w) (g := g) (row := none) (ph HK)) : w.heap.size ≤ gb171) : w0.heap.size ≤ gb171)); replace HK := uD (KeepBut.trans (ph HK) (KeepBut.of_below hb g none) (.inl rfl)); have NB0_171 := uD ((by rw [hg]; exact Nat.ne_of_lt (IsS67.lt (show IsS67 w0 _ g s0_0 s0_1 s0_2 from IsS67.p HI0)) : g ≠ gb171)); have NB171_0 := uD ((by rw [hg]; exact Nat.ne_of_gt (IsS67.lt (show IsS67 w0 _ g s0_0 s0_1 s0_2 from IsS67.p HI0)) : gb171 ≠ g)); replace HI0 := uD (IsS67.below (IsS67.p HI0) hb); clear hb hbox hg) | ((with_reducible refine gate_callee (f := 53) rfl ?_); refine gl (some 5) Tryd.func53 #[.pointer (some ⟨g, 0, none⟩)] ?_; (with_reducible refine (spec_l01Tag.calls k g s0_0 s0_1 s0_2 t172 t173 t174 t175 t176 w0 _ ?side1 ?side2 A2.out).mono ?_); (case side1 => exact IsS67.p HI0); (case side2 => exact pB HB (IsS67.ge HI0.out)); rintro e w39 ⟨rfl, hi, hb, hk⟩; refine ⟨_, rfl, ?_⟩; replace BK171 := uD (KeepBut.blk hk (pk BK171) NB171_0.out (by simp)); replace HK := uD (KeepBut.trans (ph HK) hk (.inl rfl)); replace HB := uD (hb); replace HI0 := uD (hi); (try clear hb); (try clear hb2); (try clear hk); (try clear hi)) | ((with_reducible refine gate_dst (N := 3) rfl ?_); refine bx 3 #[.int .i64 0, .int .i64 0, .int .i64 0] 25 ?_; intro gb177 hg w40 hbox hb; replace HB := uD (uO (pB HB (IsS67.ge HI0.out)) hb); have BK177 := uD (hbox); have GW177 := uD ((by rw [hg]; exact (keep_size (w := w) (g := g) (row := none) (ph HK)) : w.heap.size ≤ gb177)); have GE177 := uD ((Nat.le_trans HW0.out (by rw [hg]; exact (keep_size (w := w) (g := g) (row := none) (ph HK)) : w.heap.size ≤ gb177) : w0.heap.size ≤ gb177)); replace HK := uD (KeepBut.trans (ph HK) (KeepBut.of_below hb g none) (.inl rfl)); have NB171_177 := uD ((by rw [hg]; exact Nat.ne_of_lt (blk_lt (pk BK171)) : gb171 ≠ gb177)); have NB177_171 := uD ((by rw [hg]; exact Nat.ne_of_gt (blk_lt (pk BK171)) : gb177 ≠ gb171)); replace BK171 := uD (blk_below (pk BK171) hb); have NB0_177 := uD ((by rw [hg]; exact Nat.ne_of_lt (IsS67.lt (show IsS67 w0 _ g s0_0 t175 t176 from IsS67.p HI0)) : g ≠ gb177)); have NB177_0 := uD ((by rw [hg]; exact Nat.ne_of_gt (IsS67.lt (show IsS67 w0 _ g s0_0 t175 t176 from IsS67.p HI0)) : gb177 ≠ g)); replace HI0 := uD (IsS67.below (IsS67.p HI0) hb); clear hb hbox hg; have hnb41 := NB177_171.out; have hnc41 := NB171_177.out; have hnb42 := NB177_0.out; have hnc42 := NB0_177.out; obtain ⟨hcz43_0, hcz43_1, hcz43_2, hfz43_0, hfz43_1, hfz43_2⟩ := cz3 BK177) | ((with_reducible refine gate_callee (f := 57) rfl ?_); refine gl (some 7) Tryd.func57 #[.pointer (some ⟨g, 0, none⟩), .int .i64 14] ?_; (with_reducible refine (spec_l01Below.calls g s0_0 t175 t176 14 t178 t179 t180 w0 _ ?side1 ?side2 A3.out).mono ?_); (case side1 => exact IsS67.p HI0); (case side2 => exact pB HB (IsS67.ge HI0.out)); rintro e w44 ⟨rfl, hi, hb, hk⟩; refine ⟨_, rfl, ?_⟩; replace BK171 := uD (KeepBut.blk hk (g' := gb171) (o := .cells #[.int .i64 0, .int .i64 0, .int .i64 0] 25 (0, 0)) (by exact ps BK171) NB171_0.out (by simp)); replace BK177 := uD (KeepBut.blk hk (g' := gb177) (o := .cells #[.int .i64 t172, .int .i64 t173, .int .i64 t174] 25 (0, 0)) (by (with_reducible repeat first|apply uH|apply uJ|apply uG); refine uP (cs := #[.int .i64 t172, .int .i64 t173, .int .i64 0]) ?_ 2 _ rfl; (with_reducible repeat first|apply uH|apply uJ|apply uG); refine uP (cs := #[.int .i64 t172, .int .i64 0, .int .i64 0]) ?_ 1 _ rfl; (with_reducible repeat first|apply uH|apply uJ|apply uG); refine uP (cs := #[.int .i64 0, .int .i64 0, .int .i64 0]) ?_ 0 _ rfl; (with_reducible repeat first|apply uH|apply uJ|apply uG); exact BK177.out) NB177_0.out (by simp)); replace HK := uD (KeepBut.trans (ph HK) hk (.inl rfl)); replace HB := uD (hb); replace HI0 := uD (hi); (try clear hb); (try clear hb2); (try clear hk); (try clear hi)) | ((with_reducible refine gate_dst (N := 23) rfl ?_); refine Kd.R_lit (Kd.int .i64) _ 3 ?hg (N := 23) ?hd (xs := ([(-1), 1000000, 9223372036854775807] : List Int)) (inner := [.int .i64 (-1), .int .i64 1000000, .int .i64 9223372036854775807]) (ok := fun _ => True) (okp := fun _ => True) ?hr ?hp (fun _ hk => hk) trivial (Below.refl _ _) (Nat.le_refl _) (by simp) ?_; (case hd => rfl); (case hg => rfl); (case hr => first | (go_simp; done) | (go_simp; rfl)); (case hp => exact (Reps.one (show Kd.M (Kd.int .i64) _ _ _ (-1) [.int .i64 (-1)] from rfl) (Reps.one (show Kd.M (Kd.int .i64) _ _ _ 1000000 [.int .i64 1000000] from rfl) (Reps.one (show Kd.M (Kd.int .i64) _ _ _ 9223372036854775807 [.int .i64 9223372036854775807] from rfl) (Reps.none _ _))))); intro v194 w45 ho46 hb hg_ hnew_; clear hg_ hnew_; (first | rw [← Ny193.out] at ho46 | (simp only [Int.reduceToNat] at ho46; rw [← Ny193.out] at ho46)); have HO195 := uD (Kd.R_lower ho46 (keep_size (w := w) (g := g) (row := none) (ph HK))); replace BK171 := uD (blk_below (pk BK171) hb); replace BK177 := uD (blk_below (pk BK177) hb); replace HK := uD (KeepBut.trans (ph HK) (KeepBut.of_below hb g none) (.inl rfl)); replace HB := uD (uO (pB HB (IsS67.ge HI0.out)) hb); replace HI0 := uD (IsS67.below (IsS67.p HI0) hb); clear hb ho46; obtain ⟨Ao47, co47, eo47⟩ := Kd.R_slice HO195.out; subst eo47) | ((with_reducible refine gate_callee (f := 61) rfl ?_); refine gl (some 24) Tryd.func61 #[.pointer (some ⟨g, 0, none⟩), .slice Ao47 y193.length co47] ?_; (with_reducible refine (spec_l01PickInt.calls g s0_0 t179 t180 _ _ y193 t196 t197 t198 w0 _ ?side1 ?side2 ?side3 ?side4 ?side5 A37.out).mono ?_); (case side1 => exact IsS67.p HI0); (case side2 => exact pB HB (IsS67.ge HI0.out)); (case side3 => exact pc ((Kd.R_reads' HO195.out).2.2)); (case side4 => exact (Kd.R_reads' HO195.out).2.1); (case side5 => exact far_slice (IsS67.own_ne HI0.out HO195.out (by decide))); rintro e w48 ⟨rfl, hi, hb, hk⟩; refine ⟨_, rfl, ?_⟩; replace BK171 := uD (KeepBut.blk hk (pk BK171) NB171_0.out (by simp)); replace BK177 := uD (KeepBut.blk hk (pk BK177) NB177_0.out (by simp)); replace HO195 := uD (uX (Kd.R_keep (IsS67.apart (show IsS67 w0 _ g s0_0 t179 t180 from IsS67.p HI0) (pr HO195) (by decide)) hk (fun _ h => h.2)) (fun _ h => h.1)); replace HK := uD (KeepBut.trans (ph HK) hk (.inl rfl)); replace HB := uD (hb); replace HI0 := uD (hi); (try clear hb); (try clear hb2); (try clear hk); (try clear hi); obtain ⟨hcz49_0, hcz49_1, hcz49_2, hfz49_0, hfz49_1, hfz49_2⟩ := cz3 BK177; have hnb50 := NB171_0.out; have hnc50 := NB0_171.out; obtain ⟨hcz51_0, hcz51_1, hcz51_2, hfz51_0, hfz51_1, hfz51_2⟩ := cz3 BK171))
    refine bodyPost_ret (results_cell_row rfl _ _ gb171 25 #[.int .i64 t172, .int .i64 t173, .int .i64 t196] (0, 0) _ rfl (by (with_reducible repeat first|apply uH|apply uJ|apply uG); refine uP (cs := #[.int .i64 t172, .int .i64 t173, .int .i64 0]) ?_ 2 _ rfl; (with_reducible repeat first|apply uH|apply uJ|apply uG); refine uP (cs := #[.int .i64 t172, .int .i64 0, .int .i64 0]) ?_ 1 _ rfl; (with_reducible repeat first|apply uH|apply uJ|apply uG); refine uP (cs := #[.int .i64 0, .int .i64 0, .int .i64 0]) ?_ 0 _ rfl; exact ps BK171) Tryd.underlying25 rfl (by kernel_rfl)) rfl ?_
    exact ⟨by first | rfl | (simp [errW_none, errW_some] <;> rfl) | (simp [*, errW_none, errW_some] <;> rfl), IsS67.p HI0, pB HB (IsS67.ge HI0.out), ph HK⟩
   ·rw [if_neg c36] at H
    have c36b0 : (t178 == 2) = false := beq_eq_false_iff_ne.mpr c36
    have c36b1 : (t178 != 2) = true := bne_iff_ne.mpr c36
    simp only [Option.some.injEq, Prod.mk.injEq] at H
    obtain ⟨rfl, rfl, rfl, rfl, rfl⟩ := H
    go_enter Tryd.func49, Tryd.ntmps49
    go_wp2_with (first | ((with_reducible refine gate_dst (N := 2) rfl ?_); refine bx 2 #[.int .i64 0, .int .i64 0, .int .i64 0] 25 ?_; intro gb171 hg w52 hbox hb; replace HB := uD (uO (pB HB (IsS67.ge HI0.out)) hb); have BK171 := uD (hbox); have GW171 := uD ((by rw [hg]; exact (keep_size (w := w) (g := g) (row := none) (ph HK)) : w.heap.size ≤ gb171)); have GE171 := uD ((Nat.le_trans HW0.out (by rw [hg]; exact (keep_size (w := w) (g := g) (row := none) (ph HK)) : w.heap.size ≤ gb171) : w0.heap.size ≤ gb171)); replace HK := uD (KeepBut.trans (ph HK) (KeepBut.of_below hb g none) (.inl rfl)); have NB0_171 := uD ((by rw [hg]; exact Nat.ne_of_lt (IsS67.lt (show IsS67 w0 _ g s0_0 s0_1 s0_2 from IsS67.p HI0)) : g ≠ gb171)); have NB171_0 := uD ((by rw [hg]; exact Nat.ne_of_gt (IsS67.lt (show IsS67 w0 _ g s0_0 s0_1 s0_2 from IsS67.p HI0)) : gb171 ≠ g)); replace HI0 := uD (IsS67.below (IsS67.p HI0) hb); clear hb hbox hg) | ((with_reducible refine gate_callee (f := 53) rfl ?_); refine gl (some 5) Tryd.func53 #[.pointer (some ⟨g, 0, none⟩)] ?_; (with_reducible refine (spec_l01Tag.calls k g s0_0 s0_1 s0_2 t172 t173 t174 t175 t176 w0 _ ?side1 ?side2 A2.out).mono ?_); (case side1 => exact IsS67.p HI0); (case side2 => exact pB HB (IsS67.ge HI0.out)); rintro e w53 ⟨rfl, hi, hb, hk⟩; refine ⟨_, rfl, ?_⟩; replace BK171 := uD (KeepBut.blk hk (pk BK171) NB171_0.out (by simp)); replace HK := uD (KeepBut.trans (ph HK) hk (.inl rfl)); replace HB := uD (hb); replace HI0 := uD (hi); (try clear hb); (try clear hb2); (try clear hk); (try clear hi)) | ((with_reducible refine gate_dst (N := 3) rfl ?_); refine bx 3 #[.int .i64 0, .int .i64 0, .int .i64 0] 25 ?_; intro gb177 hg w54 hbox hb; replace HB := uD (uO (pB HB (IsS67.ge HI0.out)) hb); have BK177 := uD (hbox); have GW177 := uD ((by rw [hg]; exact (keep_size (w := w) (g := g) (row := none) (ph HK)) : w.heap.size ≤ gb177)); have GE177 := uD ((Nat.le_trans HW0.out (by rw [hg]; exact (keep_size (w := w) (g := g) (row := none) (ph HK)) : w.heap.size ≤ gb177) : w0.heap.size ≤ gb177)); replace HK := uD (KeepBut.trans (ph HK) (KeepBut.of_below hb g none) (.inl rfl)); have NB171_177 := uD ((by rw [hg]; exact Nat.ne_of_lt (blk_lt (pk BK171)) : gb171 ≠ gb177)); have NB177_171 := uD ((by rw [hg]; exact Nat.ne_of_gt (blk_lt (pk BK171)) : gb177 ≠ gb171)); replace BK171 := uD (blk_below (pk BK171) hb); have NB0_177 := uD ((by rw [hg]; exact Nat.ne_of_lt (IsS67.lt (show IsS67 w0 _ g s0_0 t175 t176 from IsS67.p HI0)) : g ≠ gb177)); have NB177_0 := uD ((by rw [hg]; exact Nat.ne_of_gt (IsS67.lt (show IsS67 w0 _ g s0_0 t175 t176 from IsS67.p HI0)) : gb177 ≠ g)); replace HI0 := uD (IsS67.below (IsS67.p HI0) hb); clear hb hbox hg; have hnb55 := NB177_171.out; have hnc55 := NB171_177.out; have hnb56 := NB177_0.out; have hnc56 := NB0_177.out; obtain ⟨hcz57_0, hcz57_1, hcz57_2, hfz57_0, hfz57_1, hfz57_2⟩ := cz3 BK177) | ((with_reducible refine gate_callee (f := 57) rfl ?_); refine gl (some 7) Tryd.func57 #[.pointer (some ⟨g, 0, none⟩), .int .i64 14] ?_; (with_reducible refine (spec_l01Below.calls g s0_0 t175 t176 14 t178 t179 t180 w0 _ ?side1 ?side2 A3.out).mono ?_); (case side1 => exact IsS67.p HI0); (case side2 => exact pB HB (IsS67.ge HI0.out)); rintro e w58 ⟨rfl, hi, hb, hk⟩; refine ⟨_, rfl, ?_⟩; replace BK171 := uD (KeepBut.blk hk (g' := gb171) (o := .cells #[.int .i64 0, .int .i64 0, .int .i64 0] 25 (0, 0)) (by exact ps BK171) NB171_0.out (by simp)); replace BK177 := uD (KeepBut.blk hk (g' := gb177) (o := .cells #[.int .i64 t172, .int .i64 t173, .int .i64 t174] 25 (0, 0)) (by (with_reducible repeat first|apply uH|apply uJ|apply uG); refine uP (cs := #[.int .i64 t172, .int .i64 t173, .int .i64 0]) ?_ 2 _ rfl; (with_reducible repeat first|apply uH|apply uJ|apply uG); refine uP (cs := #[.int .i64 t172, .int .i64 0, .int .i64 0]) ?_ 1 _ rfl; (with_reducible repeat first|apply uH|apply uJ|apply uG); refine uP (cs := #[.int .i64 0, .int .i64 0, .int .i64 0]) ?_ 0 _ rfl; (with_reducible repeat first|apply uH|apply uJ|apply uG); exact BK177.out) NB177_0.out (by simp)); replace HK := uD (KeepBut.trans (ph HK) hk (.inl rfl)); replace HB := uD (hb); replace HI0 := uD (hi); (try clear hb); (try clear hb2); (try clear hk); (try clear hi); obtain ⟨hcz59_0, hcz59_1, hcz59_2, hfz59_0, hfz59_1, hfz59_2⟩ := cz3 BK177; have hnb60 := NB171_0.out; have hnc60 := NB0_171.out; obtain ⟨hcz61_0, hcz61_1, hcz61_2, hfz61_0, hfz61_1, hfz61_2⟩ := cz3 BK171))
    refine bodyPost_ret (results_cell_row rfl _ _ gb171 25 #[.int .i64 t172, .int .i64 t173, .int .i64 t174] (0, 0) _ rfl (by (with_reducible repeat first|apply uH|apply uJ|apply uG); refine uP (cs := #[.int .i64 t172, .int .i64 t173, .int .i64 0]) ?_ 2 _ rfl; (with_reducible repeat first|apply uH|apply uJ|apply uG); refine uP (cs := #[.int .i64 t172, .int .i64 0, .int .i64 0]) ?_ 1 _ rfl; (with_reducible repeat first|apply uH|apply uJ|apply uG); refine uP (cs := #[.int .i64 0, .int .i64 0, .int .i64 0]) ?_ 0 _ rfl; (with_reducible repeat first|apply uH|apply uJ|apply uG); exact BK171.out) Tryd.underlying25 rfl (by kernel_rfl)) rfl ?_
    exact ⟨by first | rfl | (simp [errW_none, errW_some] <;> rfl) | (simp [*, errW_none, errW_some] <;> rfl), IsS67.p HI0, pB HB (IsS67.ge HI0.out), ph HK⟩

/-! ### spec_DrawNearTags: function 29 -/
def spec_DrawNearTags.f (k : Nat) (l0 : List Int) : Option (Int × Int × Int) := (spec_l01New.f k l0).bind fun bt200 => ((spec_l01AnyTag.f k bt200.1 bt200.2.1 bt200.2.2).bind fun bt204 => (some (bt204.1, bt204.2.1, bt204.2.2.1)))
theorem spec_DrawNearTags.mono : ∀ a0 k, LeO (spec_DrawNearTags.f k a0) (spec_DrawNearTags.f (k + 1) a0) := by
 intro a0 k
 unfold spec_DrawNearTags.f
 repeat' first
   | (with_reducible exact spec_l01AnyTag.mono _ _ _ _)
   | (with_reducible exact spec_l01New.mono _ _)
   | (with_reducible exact LeO.refl _)
   | (with_reducible exact LeO.none _)
   | (with_reducible refine LeO.ite ?_ ?_)
   | (with_reducible refine LeO.bind ?_ (fun _ => ?_))
   | exact spec_l01AnyTag.mono _ _ _ _
   | exact spec_l01New.mono _ _
   | exact LeO.none _
   | refine LeO.ite ?_ ?_
   | refine LeO.bind ?_ (fun _ => ?_)
set_option maxHeartbeats 8000000 in
set_option maxRecDepth 100000 in
theorem spec_DrawNearTags.calls (k : Nat) (A0 : Option Addr) (c0 : Nat) (l0 : List Int) (r1 : Int) (r2 : Int) (r3 : Int) (w : World) (hr0 : Kd.C (Kd.int .u8) w A0 l0.length l0) (hc0 : l0.length ≤ c0) (h : spec_DrawNearTags.f k l0 = some (r1, r2, r3)) :
  Calls Tryd.prog 29 #[.slice A0 l0.length c0] w fun e w' => e = .returned (.agg #[.int .i64 r1, .int .i64 r2, .int .i64 r3]) ∧ Below w.heap.size w w' := by
 have hu25 := Tryd.underlying25
 have HR0 := uD hr0
 have HC0 := uD hc0
 clear hr0 hc0
 have HB := uD (Below.refl w.heap.size w)
 have H : ((spec_l01New.f k l0).bind fun bt200 => ((spec_l01AnyTag.f k bt200.1 bt200.2.1 bt200.2.2).bind fun bt204 => (some (bt204.1, bt204.2.1, bt204.2.2.1)))) = some (r1, r2, r3) := h
 clear h
 replace H := Option.bind_eq_some_iff.mp H
 obtain ⟨⟨t200, t201, t202⟩, A20, H⟩ := H
 replace H : ((spec_l01AnyTag.f k t200 t201 t202).bind fun bt204 => (some (bt204.1, bt204.2.1, bt204.2.2.1))) = some (r1, r2, r3) := H
 have A2 := uD A20
 clear A20
 replace H := Option.bind_eq_some_iff.mp H
 obtain ⟨⟨t204, t205, t206, t207, t208⟩, A30, H⟩ := H
 replace H : (some (t204, t205, t206)) = some (r1, r2, r3) := H
 have A3 := uD A30
 clear A30
 simp only [Option.some.injEq, Prod.mk.injEq] at H
 obtain ⟨rfl, rfl, rfl⟩ := H
 go_enter Tryd.func29, Tryd.ntmps29
 go_wp2_with (first | ((with_reducible refine gate_dst (N := 2) rfl ?_); refine bx 2 #[.int .i64 0, .int .i64 0, .int .i64 0] 25 ?_; intro gb199 hg w4 hbox hb; have BK199 := uD (hbox); have GW199 := uD ((by rw [hg]; exact (uN (pb HB)) : w.heap.size ≤ gb199)); have GE199 := uD ((by rw [hg]; exact (uN (pb HB)) : w.heap.size ≤ gb199)); replace HB := uD (uO (pb HB) hb); clear hb hbox hg) | ((with_reducible refine gate_callee (f := 48) rfl ?_); refine gl (some 4) Tryd.func48 #[.slice A0 l0.length c0] ?_; (with_reducible refine (spec_l01New.calls k _ _ l0 t200 t201 t202 w _ ?side1 ?side2 ?side3 A2.out).mono ?_); (case side1 => repeat (first | (with_reducible first | exact HB.out | apply uL | apply uE | apply uK | refine uM ?_ GE199.out) | exact HB.out)); (case side2 => exact HR0.out); (case side3 => exact HC0.out); rintro e w5 ⟨g203, rfl, hi, hb, hb2⟩; refine ⟨_, rfl, ?_⟩; replace HB := uD (hb); have HI203 := uD (hi); have NB203_199 := uD (IsS67.ne_blk hi (blk_below (pk BK199) hb2) (by decide)); have NB199_203 := uD (Ne.symm (IsS67.ne_blk hi (blk_below (pk BK199) hb2) (by decide))); replace BK199 := uD (blk_below (pk BK199) hb2); (try clear hb); (try clear hb2); (try clear hk); (try clear hi)) | ((with_reducible refine gate_callee (f := 49) rfl ?_); refine gl (some 5) Tryd.func49 #[.pointer (some ⟨g203, 0, none⟩)] ?_; (with_reducible refine (spec_l01AnyTag.calls k g203 t200 t201 t202 t204 t205 t206 t207 t208 w _ ?side1 ?side2 A3.out).mono ?_); (case side1 => exact IsS67.p HI203); (case side2 => exact pB HB (IsS67.ge HI203.out)); rintro e w6 ⟨rfl, hi, hb, hk⟩; refine ⟨_, rfl, ?_⟩; replace BK199 := uD (KeepBut.blk hk (pk BK199) NB199_203.out (by simp)); replace HB := uD (hb); replace HI203 := uD (hi); (try clear hb); (try clear hb2); (try clear hk); (try clear hi); have hnb7 := NB199_203.out; have hnc7 := NB203_199.out; obtain ⟨hcz8_0, hcz8_1, hcz8_2, hfz8_0, hfz8_1, hfz8_2⟩ := cz3 BK199))
 refine bodyPost_ret (results_cell_row rfl _ _ gb199 25 #[.int .i64 t204, .int .i64 t205, .int .i64 t206] (0, 0) _ rfl (by (with_reducible repeat first|apply uH|apply uJ|apply uG); refine uP (cs := #[.int .i64 t204, .int .i64 t205, .int .i64 0]) ?_ 2 _ rfl; (with_reducible repeat first|apply uH|apply uJ|apply uG); refine uP (cs := #[.int .i64 t204, .int .i64 0, .int .i64 0]) ?_ 1 _ rfl; (with_reducible repeat first|apply uH|apply uJ|apply uG); refine uP (cs := #[.int .i64 0, .int .i64 0, .int .i64 0]) ?_ 0 _ rfl; (with_reducible repeat first|apply uH|apply uJ|apply uG); exact BK199.out) Tryd.underlying25 rfl (by kernel_rfl)) rfl ?_
 exact ⟨by first | rfl | (simp [errW_none, errW_some] <;> rfl) | (simp [*, errW_none, errW_some] <;> rfl), pB HB (IsS67.ge HI203.out)⟩

/-! ### impl_tagOf: function 50 -/
def impl_tagOf.f (a0 : Int) : Option (Int × Int × Int) := some (wrap64 (Int.tdiv a0 1000000000), Int.tmod (wrap64 (Int.tdiv a0 1000000)) 1000, Int.tmod a0 1000000)
set_option maxHeartbeats 8000000 in
set_option maxRecDepth 100000 in
theorem impl_tagOf.calls (a0 : Int) (r1 : Int) (r2 : Int) (r3 : Int) (w : World) (h : impl_tagOf.f a0 = some (r1, r2, r3)) :
  Calls Tryd.prog 50 #[.int .i64 a0] w fun e w' => e = .returned (.agg #[.int .i64 r1, .int .i64 r2, .int .i64 r3]) ∧ Below w.heap.size w w' := by
 have hu25 := Tryd.underlying25
 have HB := uD (Below.refl w.heap.size w)
 have H : (some (wrap64 (Int.tdiv a0 1000000000), Int.tmod (wrap64 (Int.tdiv a0 1000000)) 1000, Int.tmod a0 1000000)) = some (r1, r2, r3) := h
 clear h
 simp only [Option.some.injEq, Prod.mk.injEq] at H
 obtain ⟨rfl, rfl, rfl⟩ := H
 go_enter Tryd.func50, Tryd.ntmps50
 go_wp2_with (first | ((with_reducible refine gate_dst (N := 2) rfl ?_); refine bx 2 #[.int .i64 0, .int .i64 0, .int .i64 0] 25 ?_; intro gb209 hg w2 hbox hb; have BK209 := uD (hbox); have GW209 := uD ((by rw [hg]; exact (uN (pb HB)) : w.heap.size ≤ gb209)); have GE209 := uD ((by rw [hg]; exact (uN (pb HB)) : w.heap.size ≤ gb209)); replace HB := uD (uO (pb HB) hb); clear hb hbox hg; obtain ⟨hcz3_0, hcz3_1, hcz3_2, hfz3_0, hfz3_1, hfz3_2⟩ := cz3 BK209))
 refine bodyPost_ret (results_cell_row rfl _ _ gb209 25 #[.int .i64 (wrap64 (Int.tdiv a0 1000000000)), .int .i64 (Int.tmod (wrap64 (Int.tdiv a0 1000000)) 1000), .int .i64 (Int.tmod a0 1000000)] (0, 0) _ rfl (by (with_reducible repeat first|apply uH|apply uJ|apply uG); refine uP (cs := #[.int .i64 (wrap64 (Int.tdiv a0 1000000000)), .int .i64 (Int.tmod (wrap64 (Int.tdiv a0 1000000)) 1000), .int .i64 0]) ?_ 2 _ rfl; (with_reducible repeat first|apply uH|apply uJ|apply uG); refine uP (cs := #[.int .i64 (wrap64 (Int.tdiv a0 1000000000)), .int .i64 0, .int .i64 0]) ?_ 1 _ rfl; (with_reducible repeat first|apply uH|apply uJ|apply uG); refine uP (cs := #[.int .i64 0, .int .i64 0, .int .i64 0]) ?_ 0 _ rfl; (with_reducible repeat first|apply uH|apply uJ|apply uG); exact BK209.out) Tryd.underlying25 rfl (by kernel_rfl)) rfl ?_
 exact ⟨by first | rfl | (simp [errW_none, errW_some] <;> rfl) | (simp [*, errW_none, errW_some] <;> rfl), pb HB⟩

end Go.Proofs.YtnkaimdcdedekaaDoor.PFnNearTags
