-- Written by a program of this session (wip/myprint.py: the kit's print with changes): not by print.sh itself.
import Derived.Test.YtnkaimdcdedekaaDoorPFnTagsx0
import Derived.Test.YtnkaimdcdedekaaDoorPFnTagsx2
import Derived.Test.YtnkaimdcdedekaaDoorPFnTagsx5
namespace Go.Proofs.YtnkaimdcdedekaaDoor.PFnTags
open Go.RowKit Go.Proofs.YtnkaimdcdedekaaDoorW.PrintWords Go.Proofs.YtnkaimdcdedekaaDoorW.PrintLast Go.Proofs.YtnkaimdcdedekaaDoorW.PrintMore
open Go renaming Act.put → uc
open Go.Proofs.YtnkaimdcdedekaaDoorW.PrintLast renaming i64_w → uZ, i32_w → ua, pure_ → ub
open Go.Proofs.YtnkaimdcdedekaaDoorW.PrintWords renaming Aside0.mk → uD, pw_below_drewN → uE, below_drew1 → uK, below_alloc → uL, below_set → uM, below_step → uO, Kd.R_drewN → uS, Kd.R_drew → uT, Kd.R_alloc → uU, Kd.R_mono → uX
open List renaming setIfInBounds_toArray → uA, set_cons_zero → uB, set_cons_succ → uC
open Bool renaming true → T, false → F
attribute [local go_sem] max2_int min2_int max_two min_two max_three min_three max_four min_four   -- for this text's walks alone
set_option linter.unusedVariables false
set_option linter.unusedSimpArgs false

/-! ### spec_l01Blur: function 47 -/
mutual
def spec_l01Blur.l0 : Nat → List Int → Int → List Int → Int → Int → Option (ByteArray × Int × Int)
 | 0, _, _, _, _, _ => none
 | k + 1, x3, x4, x1000, x1001, x1002 => if x4 > 0 then ((spec_l01Below.f x1000 x1001 x1002 12).bind fun bt214 => (if bt214.1 = 10 then (spec_l01Blur.l0 k x3 (wrap64 (x4 - 1)) x1000 bt214.2.1 bt214.2.2) else (if 0 ≤ bt214.1 then (if bt214.1 < (x3.length : Int) then (spec_l01Blur.l0 k (x3.set (bt214.1 : Int).toNat 63) (wrap64 (x4 - 1)) x1000 bt214.2.1 bt214.2.2) else (none)) else (none)))) else ((spec_l01Once.f x1000 x1001 x1002 6).bind fun bt218 => (if bt218.1 = true then ((spec_l01Below.f x1000 bt218.2.1 bt218.2.2 12).bind fun bt221 => ((spec_l01PickInt.f x1000 bt221.2.1 bt221.2.2 (([48, 49, 57, 63, 45, 65, 58] : List Int))).bind fun bt227 => (if 0 ≤ bt221.1 then (if bt221.1 < (x3.length : Int) then (spec_l01Blur.j1 k (x3.set (bt221.1 : Int).toNat ((bt227.1) % 256)) x1000 bt227.2.1 bt227.2.2) else (none)) else (none)))) else (spec_l01Blur.j1 k x3 x1000 bt218.2.1 bt218.2.2)))
def spec_l01Blur.j1 : Nat → List Int → List Int → Int → Int → Option (ByteArray × Int × Int)
 | 0, _, _, _, _ => none
 | k + 1, x3, x1000, x1001, x1002 => (spec_l01Once.f x1000 x1001 x1002 20).bind fun bt231 => (if bt231.1 = true then ((spec_l01Pick.f x1000 bt231.2.1 bt231.2.2 (([(⟨#[]⟩ : ByteArray), (⟨#[48]⟩ : ByteArray), (⟨#[63]⟩ : ByteArray)] : List ByteArray))).bind fun bt237 => (if (strOfNums x3).size + bt237.1.size ≤ 9223372036854775807 then (some ((strOfNums x3) ++ bt237.1, bt237.2.1, bt237.2.2)) else (none))) else (some (strOfNums x3, bt231.2.1, bt231.2.2)))
end
def spec_l01Blur.f (k : Nat) (s0_0 : List Int) (s0_1 : Int) (s0_2 : Int) : Option (ByteArray × Int × Int) := (spec_l01Tag.f k s0_0 s0_1 s0_2).bind fun bt199 => ((spec_FormatTag.f k bt199.1 bt199.2.1 bt199.2.2.1).bind fun t204 => ((spec_l01PickInt.f s0_0 bt199.2.2.2.1 bt199.2.2.2.2 (([0, 0, 1, 1, 1, 2, 3, 4] : List Int))).bind fun bt211 => (spec_l01Blur.l0 k (numsOf t204) bt211.1 s0_0 bt211.2.1 bt211.2.2)))
theorem spec_l01Blur.mono_l : ∀ k, (∀ y0 y1 y2 y3 y4, LeO (spec_l01Blur.l0 k y0 y1 y2 y3 y4) (spec_l01Blur.l0 (k + 1) y0 y1 y2 y3 y4)) ∧ (∀ y0 y1 y2 y3, LeO (spec_l01Blur.j1 k y0 y1 y2 y3) (spec_l01Blur.j1 (k + 1) y0 y1 y2 y3))
 | 0 => ⟨fun _ _ _ _ _ r h => by simp [spec_l01Blur.l0] at h, fun _ _ _ _ r h => by simp [spec_l01Blur.j1] at h⟩
 | k + 1 => by
  obtain ⟨ih0, ih1⟩ := spec_l01Blur.mono_l k
  refine ⟨?_, ?_⟩
  ·intro y0 y1 y2 y3 y4
   unfold spec_l01Blur.l0
   repeat' first
   | (with_reducible exact ih0 _ _ _ _ _)
   | (with_reducible exact ih1 _ _ _ _)
   | (with_reducible exact spec_FormatTag.mono _ _ _ _)
   | (with_reducible exact spec_l01Tag.mono _ _ _ _)
   | (with_reducible exact LeO.refl _)
   | (with_reducible exact LeO.none _)
   | (with_reducible refine LeO.ite ?_ ?_)
   | (with_reducible refine LeO.bind ?_ (fun _ => ?_))
   | exact ih0 _ _ _ _ _
   | exact ih1 _ _ _ _
   | exact spec_FormatTag.mono _ _ _ _
   | exact spec_l01Tag.mono _ _ _ _
   | exact LeO.none _
   | refine LeO.ite ?_ ?_
   | refine LeO.bind ?_ (fun _ => ?_)
  ·intro y0 y1 y2 y3
   unfold spec_l01Blur.j1
   repeat' first
   | (with_reducible exact ih0 _ _ _ _ _)
   | (with_reducible exact ih1 _ _ _ _)
   | (with_reducible exact spec_FormatTag.mono _ _ _ _)
   | (with_reducible exact spec_l01Tag.mono _ _ _ _)
   | (with_reducible exact LeO.refl _)
   | (with_reducible exact LeO.none _)
   | (with_reducible refine LeO.ite ?_ ?_)
   | (with_reducible refine LeO.bind ?_ (fun _ => ?_))
   | exact ih0 _ _ _ _ _
   | exact ih1 _ _ _ _
   | exact spec_FormatTag.mono _ _ _ _
   | exact spec_l01Tag.mono _ _ _ _
   | exact LeO.none _
   | refine LeO.ite ?_ ?_
   | refine LeO.bind ?_ (fun _ => ?_)
theorem spec_l01Blur.mono : ∀ a0 a1 a2 k, LeO (spec_l01Blur.f k a0 a1 a2) (spec_l01Blur.f (k + 1) a0 a1 a2) := by
 intro a0 a1 a2 k
 obtain ⟨ih0, ih1⟩ := spec_l01Blur.mono_l k
 unfold spec_l01Blur.f
 repeat' first
   | (with_reducible exact ih0 _ _ _ _ _)
   | (with_reducible exact ih1 _ _ _ _)
   | (with_reducible exact spec_FormatTag.mono _ _ _ _)
   | (with_reducible exact spec_l01Tag.mono _ _ _ _)
   | (with_reducible exact LeO.refl _)
   | (with_reducible exact LeO.none _)
   | (with_reducible refine LeO.ite ?_ ?_)
   | (with_reducible refine LeO.bind ?_ (fun _ => ?_))
   | exact ih0 _ _ _ _ _
   | exact ih1 _ _ _ _
   | exact spec_FormatTag.mono _ _ _ _
   | exact spec_l01Tag.mono _ _ _ _
   | exact LeO.none _
   | refine LeO.ite ?_ ?_
   | refine LeO.bind ?_ (fun _ => ?_)
set_option maxHeartbeats 8000000 in
set_option maxRecDepth 100000 in
theorem spec_l01Blur.calls (k : Nat) (g : Nat) (s0_0 : List Int) (s0_1 : Int) (s0_2 : Int) (r1 : ByteArray) (r2 : Int) (r3 : Int) (w0 w : World) (hI : IsS67 w0 w g s0_0 s0_1 s0_2) (hB : Below w0.heap.size w0 w) (h : spec_l01Blur.f k s0_0 s0_1 s0_2 = some (r1, r2, r3)) :
  Calls Tryd.prog 47 #[.pointer (some ⟨g, 0, none⟩)] w fun e w' => e = .returned (.string r1) ∧ IsS67 w0 w' g s0_0 r2 r3 ∧ Below w0.heap.size w0 w' ∧ KeepBut w w' g none := by
 have HI0 := uD hI
 have HK := uD (KeepBut.refl w g none)
 have HL := uD hB.size
 clear hI
 have HW0 := uD hB.size
 have HB := uD hB
 clear hB
 have H : ((spec_l01Tag.f k s0_0 s0_1 s0_2).bind fun bt199 => ((spec_FormatTag.f k bt199.1 bt199.2.1 bt199.2.2.1).bind fun t204 => ((spec_l01PickInt.f s0_0 bt199.2.2.2.1 bt199.2.2.2.2 (([0, 0, 1, 1, 1, 2, 3, 4] : List Int))).bind fun bt211 => (spec_l01Blur.l0 k (numsOf t204) bt211.1 s0_0 bt211.2.1 bt211.2.2)))) = some (r1, r2, r3) := h
 clear h
 replace H := Option.bind_eq_some_iff.mp H
 obtain ⟨⟨t199, t200, t201, t202, t203⟩, A20, H⟩ := H
 replace H : ((spec_FormatTag.f k t199 t200 t201).bind fun t204 => ((spec_l01PickInt.f s0_0 t202 t203 (([0, 0, 1, 1, 1, 2, 3, 4] : List Int))).bind fun bt211 => (spec_l01Blur.l0 k (numsOf t204) bt211.1 s0_0 bt211.2.1 bt211.2.2))) = some (r1, r2, r3) := H
 have A2 := uD A20
 clear A20
 replace H := Option.bind_eq_some_iff.mp H
 obtain ⟨t204, A30, H⟩ := H
 replace H : ((spec_l01PickInt.f s0_0 t202 t203 (([0, 0, 1, 1, 1, 2, 3, 4] : List Int))).bind fun bt211 => (spec_l01Blur.l0 k (numsOf t204) bt211.1 s0_0 bt211.2.1 bt211.2.2)) = some (r1, r2, r3) := H
 have A3 := uD A30
 clear A30
 obtain ⟨y205, hy205⟩ : ∃ y_ : List Int, y_ = (numsOf t204) := ⟨_, rfl⟩
 replace H : ((spec_l01PickInt.f s0_0 t202 t203 (([0, 0, 1, 1, 1, 2, 3, 4] : List Int))).bind fun bt211 => (spec_l01Blur.l0 k y205 bt211.1 s0_0 bt211.2.1 bt211.2.2)) = some (r1, r2, r3) := by first | (rw [hy205]; with_reducible exact H) | (have H2_ := (Option.bind_some _ _).symm.trans H; rw [hy205]; with_reducible exact H2_) | (have H2_ := (Option.bind_some _ _).symm.trans H; with_reducible exact H2_) | with_reducible exact H | (rw [hy205]; exact H) | exact H
 have Ny205 := uD hy205
 clear hy205
 obtain ⟨y208, hy208⟩ : ∃ y_ : List Int, y_ = (([0, 0, 1, 1, 1, 2, 3, 4] : List Int)) := ⟨_, rfl⟩
 replace H : ((spec_l01PickInt.f s0_0 t202 t203 y208).bind fun bt211 => (spec_l01Blur.l0 k y205 bt211.1 s0_0 bt211.2.1 bt211.2.2)) = some (r1, r2, r3) := by first | (rw [hy208]; with_reducible exact H) | (have H2_ := (Option.bind_some _ _).symm.trans H; rw [hy208]; with_reducible exact H2_) | (have H2_ := (Option.bind_some _ _).symm.trans H; with_reducible exact H2_) | with_reducible exact H | (rw [hy208]; exact H) | exact H
 have Ny208 := uD hy208
 clear hy208
 replace H := Option.bind_eq_some_iff.mp H
 obtain ⟨⟨t211, t212, t213⟩, A40, H⟩ := H
 replace H : (spec_l01Blur.l0 k y205 t211 s0_0 t212 t213) = some (r1, r2, r3) := H
 have A4 := uD A40
 clear A40
 have H' := uD H
 clear H
 go_enter Tryd.func47, Tryd.ntmps47
 go_wp2_with (first | ((with_reducible refine gate_callee (f := 53) rfl ?_); refine gl (some 7) Tryd.func53 #[.pointer (some ⟨g, 0, none⟩)] ?_; (with_reducible refine (spec_l01Tag.calls k g s0_0 s0_1 s0_2 t199 t200 t201 t202 t203 w0 _ ?side1 ?side2 A2.out).mono ?_); (case side1 => exact IsS67.p HI0); (case side2 => exact pB HB (IsS67.ge HI0.out)); rintro e w5 ⟨rfl, hi, hb, hk⟩; refine ⟨_, rfl, ?_⟩; replace HK := uD (KeepBut.trans (ph HK) hk (.inl rfl)); replace HB := uD (hb); replace HI0 := uD (hi); (try clear hb); (try clear hb2); (try clear hk); (try clear hi)) | ((with_reducible refine gate_callee (f := 12) rfl ?_); refine gl (some 8) Tryd.func12 #[.agg #[.int .i64 t199, .int .i64 t200, .int .i64 t201]] ?_; (with_reducible refine (spec_FormatTag.calls k t199 t200 t201 t204 _ A3.out).mono ?_); rintro e w6 ⟨rfl, hb⟩; refine ⟨_, rfl, ?_⟩; replace HK := uD (KeepBut.trans (ph HK) (KeepBut.of_below hb g none) (.inl rfl)); replace HB := uD (uO (pB HB (IsS67.ge HI0.out)) hb); replace HI0 := uD (IsS67.below (IsS67.p HI0) hb); (try clear hb); (try clear hb2); (try clear hk); (try clear hi)) | ((with_reducible refine gate_dst (N := 9) rfl ?_); refine Fb.conv (t := 5) t204 y205 Ny205.out ?hg ?hr ?_; (case hg => rfl); (case hr => (have hcv_ := fun W => Go.Lib.run_convert_string_bytes (P := Tryd.prog) W 9 37 5 t204 Tryd.underlying9 Tryd.underlying37 Tryd.underlying5); first | (go_simp; done) | (go_simp; rfl)); intro go co w7 hg hcap hF hb; have HO207 := uD (hF); have GG := uD (show w.heap.size ≤ go by rw [hg]; exact keep_size (w := w) (g := g) (row := none) (ph HK)); have NEg := uD (show go ≠ g by rw [hg]; exact Nat.ne_of_gt (IsS67.lt (show IsS67 w0 _ g s0_0 t202 t203 from IsS67.p HI0))); replace HK := uD (KeepBut.trans (ph HK) (KeepBut.of_below hb g none) (.inl rfl)); replace HB := uD (uO (pB HB (IsS67.ge HI0.out)) hb); replace HI0 := uD (IsS67.below (IsS67.p HI0) hb); clear hb hF hg hcap) | ((with_reducible refine gate_dst (N := 11) rfl ?_); refine Kd.R_lit (Kd.int .i64) _ 3 ?hg (N := 11) ?hd (xs := ([0, 0, 1, 1, 1, 2, 3, 4] : List Int)) (inner := [.int .i64 0, .int .i64 0, .int .i64 1, .int .i64 1, .int .i64 1, .int .i64 2, .int .i64 3, .int .i64 4]) (ok := fun _ => True) (okp := fun _ => True) ?hr ?hp (fun _ hk => hk) trivial (Below.refl _ _) (Nat.le_refl _) (by simp) ?_; (case hd => rfl); (case hg => rfl); (case hr => first | (go_simp; done) | (go_simp; rfl)); (case hp => exact (Reps.one (show Kd.M (Kd.int .i64) _ _ _ 0 [.int .i64 0] from rfl) (Reps.one (show Kd.M (Kd.int .i64) _ _ _ 0 [.int .i64 0] from rfl) (Reps.one (show Kd.M (Kd.int .i64) _ _ _ 1 [.int .i64 1] from rfl) (Reps.one (show Kd.M (Kd.int .i64) _ _ _ 1 [.int .i64 1] from rfl) (Reps.one (show Kd.M (Kd.int .i64) _ _ _ 1 [.int .i64 1] from rfl) (Reps.one (show Kd.M (Kd.int .i64) _ _ _ 2 [.int .i64 2] from rfl) (Reps.one (show Kd.M (Kd.int .i64) _ _ _ 3 [.int .i64 3] from rfl) (Reps.one (show Kd.M (Kd.int .i64) _ _ _ 4 [.int .i64 4] from rfl) (Reps.none _ _)))))))))); intro v209 w9 ho10 hb hg_ hnew_; clear hg_ hnew_; (first | rw [← Ny208.out] at ho10 | (simp only [Int.reduceToNat] at ho10; rw [← Ny208.out] at ho10)); replace HO207 := uD (HO207.out.below hb); have HO210 := uD (Kd.R_lower ho10 (keep_size (w := w) (g := g) (row := none) (ph HK))); replace HK := uD (KeepBut.trans (ph HK) (KeepBut.of_below hb g none) (.inl rfl)); replace HB := uD (uO (pB HB (IsS67.ge HI0.out)) hb); replace HI0 := uD (IsS67.below (IsS67.p HI0) hb); clear hb ho10; obtain ⟨Ao11, co11, eo11⟩ := Kd.R_slice HO210.out; subst eo11) | ((with_reducible refine gate_callee (f := 61) rfl ?_); refine gl (some 12) Tryd.func61 #[.pointer (some ⟨g, 0, none⟩), .slice Ao11 y208.length co11] ?_; (with_reducible refine (spec_l01PickInt.calls g s0_0 t202 t203 _ _ y208 t211 t212 t213 w0 _ ?side1 ?side2 ?side3 ?side4 ?side5 A4.out).mono ?_); (case side1 => exact IsS67.p HI0); (case side2 => exact pB HB (IsS67.ge HI0.out)); (case side3 => exact pc ((Kd.R_reads' HO210.out).2.2)); (case side4 => exact (Kd.R_reads' HO210.out).2.1); (case side5 => exact far_slice (IsS67.own_ne HI0.out HO210.out (by decide))); rintro e w12 ⟨rfl, hi, hb, hk⟩; refine ⟨_, rfl, ?_⟩; replace HO207 := uD (HO207.out.move (hk.2 go HO207.out.lt NEg.out (by simp))); replace HO210 := uD (uX (Kd.R_keep (IsS67.apart (show IsS67 w0 _ g s0_0 t202 t203 from IsS67.p HI0) (pr HO210) (by decide)) hk (fun _ h => h.2)) (fun _ h => h.1)); replace HK := uD (KeepBut.trans (ph HK) hk (.inl rfl)); replace HB := uD (hb); replace HI0 := uD (hi); (try clear hb); (try clear hb2); (try clear hk); (try clear hi)))
 obtain ⟨n, hn⟩ : ∃ n, y205.length = n := ⟨_, rfl⟩
 rw [hn]
 have HN0 := uD hn
 clear hn
 go_loopg [4] k (fun kq v4 w' => ∃ (x3_1 : List Int) (x4_1 : Int) (x1001_1 : Int) (x1002_1 : Int), v4 = .int .i64 x4_1 ∧ Aside0 (spec_l01Blur.l0 kq x3_1 x4_1 s0_0 x1001_1 x1002_1 = some (r1, r2, r3)) ∧ Aside0 (kq ≤ k) ∧ Aside0 (Fb 5 w' go x3_1) ∧ Aside0 (x3_1.length = n) ∧ Aside0 (IsS67 w0 w' g s0_0 x1001_1 x1002_1) ∧ Aside0 (KeepBut w w' g none) ∧ Aside0 (Below w0.heap.size w0 w'))
 case atStart => exact ⟨(y205), (t211), (t212), (t213), (by first | rfl | (simp; done) | (simp [*]; done)), H', ⟨Nat.le_refl _⟩, HO207, HN0, ⟨IsS67.p HI0⟩, ⟨ph HK⟩, ⟨pB HB (IsS67.ge HI0.out)⟩⟩
 case round =>
  clear H'
  try clear c1
  try clear p2
  try clear c4
  try clear c5
  try clear c6
  try clear c12
  obtain ⟨x3_1, x4_1, x1001_1, x1002_1, rfl, HA, HK1, HO_3, HN, HI0, HK, HB⟩ := hrel
  cases gk with
  | zero => exact absurd HA.out (by simp [spec_l01Blur.l0])
  | succ k1 =>
   have H := HA.out
   clear HA
   simp only [spec_l01Blur.l0] at H
   by_cases c13 : x4_1 > 0
   ·rw [if_pos c13] at H
    have c13b0 : decide (0 < x4_1) = true := decide_eq_true c13
    clear c13
    replace H := Option.bind_eq_some_iff.mp H
    obtain ⟨⟨t214, t215, t216⟩, A140, H⟩ := H
    replace H : (if t214 = 10 then (spec_l01Blur.l0 k1 x3_1 (wrap64 (x4_1 - 1)) s0_0 t215 t216) else (if 0 ≤ t214 then (if t214 < (x3_1.length : Int) then (spec_l01Blur.l0 k1 (x3_1.set (t214 : Int).toNat 63) (wrap64 (x4_1 - 1)) s0_0 t215 t216) else (none)) else (none))) = some (r1, r2, r3) := H
    have A14 := uD A140
    clear A140
    by_cases c15 : t214 = 10
    ·rw [if_pos c15] at H
     have c15b0 : (t214 == 10) = true := beq_iff_eq.mpr c15
     have c15b1 : (t214 != 10) = false := bne_eq_false_iff_eq.mpr c15
     clear c15
     have H' := uD H
     clear H
     go_wp2_with (first | ((with_reducible refine gate_callee (f := 57) rfl ?_); refine gl (some 18) Tryd.func57 #[.pointer (some ⟨g, 0, none⟩), .int .i64 12] ?_; (with_reducible refine (spec_l01Below.calls g s0_0 x1001_1 x1002_1 12 t214 t215 t216 w0 _ ?side1 ?side2 A14.out).mono ?_); (case side1 => exact IsS67.p HI0); (case side2 => exact pB HB (IsS67.ge HI0.out)); rintro e w16 ⟨rfl, hi, hb, hk⟩; refine ⟨_, rfl, ?_⟩; replace HO_3 := uD (HO_3.out.move (hk.2 go HO_3.out.lt NEg.out (by simp))); replace HK := uD (KeepBut.trans (ph HK) hk (.inl rfl)); replace HB := uD (hb); replace HI0 := uD (hi); (try clear hb); (try clear hb2); (try clear hk); (try clear hi)))
     go_roundg k1
     case measure => have := HK1.out; omega
     case rel => exact ⟨(x3_1), (wrap64 (x4_1 - 1)), (t215), (t216), (by first | rfl | (simp; done) | (simp [*]; done)), H', ⟨by have := HK1.out; omega⟩, HO_3, HN, ⟨IsS67.p HI0⟩, ⟨ph HK⟩, ⟨pB HB (IsS67.ge HI0.out)⟩⟩
    ·rw [if_neg c15] at H
     have c15b0 : (t214 == 10) = false := beq_eq_false_iff_ne.mpr c15
     have c15b1 : (t214 != 10) = true := bne_iff_ne.mpr c15
     by_cases c17 : 0 ≤ t214
     ·rw [if_pos c17] at H
      have c17b0 : decide (0 ≤ t214) = true := decide_eq_true c17
      clear c17
      by_cases c18 : t214 < (x3_1.length : Int)
      ·rw [if_pos c18] at H
       have c18b0 : decide (t214 < (x3_1.length : Int)) = true := decide_eq_true c18
       clear c18
       obtain ⟨y217, hy217⟩ : ∃ y_ : List Int, y_ = (x3_1.set (t214 : Int).toNat 63) := ⟨_, rfl⟩
       replace H : (spec_l01Blur.l0 k1 y217 (wrap64 (x4_1 - 1)) s0_0 t215 t216) = some (r1, r2, r3) := by first | (rw [hy217]; with_reducible exact H) | (have H2_ := (Option.bind_some _ _).symm.trans H; rw [hy217]; with_reducible exact H2_) | (have H2_ := (Option.bind_some _ _).symm.trans H; with_reducible exact H2_) | with_reducible exact H | (rw [hy217]; exact H) | exact H
       have Ny217 := uD hy217
       clear hy217
       have H' := uD H
       clear H
       go_wp2_with (first | ((with_reducible refine gate_callee (f := 57) rfl ?_); refine gl (some 18) Tryd.func57 #[.pointer (some ⟨g, 0, none⟩), .int .i64 12] ?_; (with_reducible refine (spec_l01Below.calls g s0_0 x1001_1 x1002_1 12 t214 t215 t216 w0 _ ?side1 ?side2 A14.out).mono ?_); (case side1 => exact IsS67.p HI0); (case side2 => exact pB HB (IsS67.ge HI0.out)); rintro e w20 ⟨rfl, hi, hb, hk⟩; refine ⟨_, rfl, ?_⟩; replace HO_3 := uD (HO_3.out.move (hk.2 go HO_3.out.lt NEg.out (by simp))); replace HK := uD (KeepBut.trans (ph HK) hk (.inl rfl)); replace HB := uD (hb); replace HI0 := uD (hi); (try clear hb); (try clear hb2); (try clear hk); (try clear hi); have p19 : 0 ≤ (t214 : Int) := of_decide_eq_true (by first | (with_reducible assumption) | assumption); have q19 : (t214 : Int) < ((x3_1.length : Int) : Int) := of_decide_eq_true (by first | (with_reducible assumption) | assumption); have qn19 := eq_true (show (t214 : Int) < (n : Int) by rw [← HN.out]; exact q19); obtain ⟨hx19_0, hf19_0⟩ := HO_3.out.cell (t214 : Int) p19 q19; have hput := fun x => HO_3.out.put (t214 : Int) x p19 q19; replace p19 := eq_true p19; replace q19 := eq_true q19; have HP21 := uD (hput (63)); clear hput) | ((with_reducible refine gate_store (t := 5) (p := 23) rfl ?_); refine store_event (t := 5) (p := 23) (v := ?vo_w22) (w1 := (w20.setCell ⟨go, (t214 : Int).toNat, none⟩ (.int .u8 63))) ?hg ?ho ?hn ?hr ?_; (case ho => rfl); (case hg => rfl); (case hn => rfl); (case hr => first | (go_simp; done) | (go_simp; rfl)); intro w22 hw; have hp_ : Fb 5 w22 go y217 := (by rw [hw, Ny217.out]; exact HP21.out); clear HP21; replace HI0 := uD (show IsS67 w0 w22 g s0_0 _ _ by rw [hw]; exact IsS67.far (IsS67.p HI0) (p := ⟨go, (t214 : Int).toNat, none⟩) (Ne.symm NEg.out) _); replace HB := uD ((by rw [hw]; exact uM (HB.out) (Nat.le_trans HL.out GG.out) : Below w0.heap.size w0 w22)); replace HK := uD (show KeepBut w w22 g none by rw [hw]; exact keep_far (p := ⟨go, (t214 : Int).toNat, none⟩) (ph HK) GG.out _); replace HO_3 := uD (hp_); clear hw hp_))
       go_roundg k1
       case measure => have := HK1.out; omega
       case rel => exact ⟨(y217), (wrap64 (x4_1 - 1)), (t215), (t216), (by first | rfl | (simp; done) | (simp [*]; done)), H', ⟨by have := HK1.out; omega⟩, HO_3, ⟨by rw [Ny217.out, List.length_set]; exact HN.out⟩, ⟨IsS67.p HI0⟩, ⟨ph HK⟩, ⟨pB HB (IsS67.ge HI0.out)⟩⟩
      ·rw [if_neg c18] at H
       exact absurd H (by simp)
     ·rw [if_neg c17] at H
      exact absurd H (by simp)
   ·rw [if_neg c13] at H
    have c13b0 : decide (0 < x4_1) = false := decide_eq_false c13
    clear c13
    replace H := Option.bind_eq_some_iff.mp H
    obtain ⟨⟨t218, t219, t220⟩, A230, H⟩ := H
    replace H : (if t218 = true then ((spec_l01Below.f s0_0 t219 t220 12).bind fun bt221 => ((spec_l01PickInt.f s0_0 bt221.2.1 bt221.2.2 (([48, 49, 57, 63, 45, 65, 58] : List Int))).bind fun bt227 => (if 0 ≤ bt221.1 then (if bt221.1 < (x3_1.length : Int) then (spec_l01Blur.j1 k1 (x3_1.set (bt221.1 : Int).toNat ((bt227.1) % 256)) s0_0 bt227.2.1 bt227.2.2) else (none)) else (none)))) else (spec_l01Blur.j1 k1 x3_1 s0_0 t219 t220)) = some (r1, r2, r3) := H
    have A23 := uD A230
    clear A230
    have HC24 := uD H
    clear H
    go_upto_if 25 with (first | ((with_reducible refine gate_callee (f := 56) rfl ?_); refine gl (some 25) Tryd.func56 #[.pointer (some ⟨g, 0, none⟩), .int .i64 6] ?_; (with_reducible refine (spec_l01Once.calls g s0_0 x1001_1 x1002_1 6 t218 t219 t220 w0 _ ?side1 ?side2 A23.out).mono ?_); (case side1 => exact IsS67.p HI0); (case side2 => exact pB HB (IsS67.ge HI0.out)); rintro e w25 ⟨rfl, hi, hb, hk⟩; refine ⟨_, rfl, ?_⟩; replace HO_3 := uD (HO_3.out.move (hk.2 go HO_3.out.lt NEg.out (by simp))); replace HK := uD (KeepBut.trans (ph HK) hk (.inl rfl)); replace HB := uD (hb); replace HI0 := uD (hi); (try clear hb); (try clear hb2); (try clear hk); (try clear hi)))
    (try simp only [uc, uA, uB, uC])
    go_cut [] (fun wc => ∃ (kq : Nat) (x3_23 : List Int) (x1001_23 : Int) (x1002_23 : Int), Aside0 (spec_l01Blur.j1 kq x3_23 s0_0 x1001_23 x1002_23 = some (r1, r2, r3)) ∧ Aside0 (kq ≤ k1) ∧ Aside0 (Fb 5 wc go x3_23) ∧ Aside0 (x3_23.length = n) ∧ Aside0 (IsS67 w0 wc g s0_0 x1001_23 x1002_23) ∧ Aside0 (KeepBut w wc g none) ∧ Aside0 (Below w0.heap.size w0 wc))
    case first =>
     have H := HC24.out
     clear HC24
     by_cases c26 : t218 = true
     ·subst c26
      have H1 : ((spec_l01Below.f s0_0 t219 t220 12).bind fun bt221 => ((spec_l01PickInt.f s0_0 bt221.2.1 bt221.2.2 (([48, 49, 57, 63, 45, 65, 58] : List Int))).bind fun bt227 => (if 0 ≤ bt221.1 then (if bt221.1 < (x3_1.length : Int) then (spec_l01Blur.j1 k1 (x3_1.set (bt221.1 : Int).toNat ((bt227.1) % 256)) s0_0 bt227.2.1 bt227.2.2) else (none)) else (none)))) = some (r1, r2, r3) := by rw [if_pos rfl] at H; first | done | exact H
      clear H
      have H := H1
      clear H1
      replace H := Option.bind_eq_some_iff.mp H
      obtain ⟨⟨t221, t222, t223⟩, A270, H⟩ := H
      replace H : ((spec_l01PickInt.f s0_0 t222 t223 (([48, 49, 57, 63, 45, 65, 58] : List Int))).bind fun bt227 => (if 0 ≤ t221 then (if t221 < (x3_1.length : Int) then (spec_l01Blur.j1 k1 (x3_1.set (t221 : Int).toNat ((bt227.1) % 256)) s0_0 bt227.2.1 bt227.2.2) else (none)) else (none))) = some (r1, r2, r3) := H
      have A27 := uD A270
      clear A270
      obtain ⟨y224, hy224⟩ : ∃ y_ : List Int, y_ = (([48, 49, 57, 63, 45, 65, 58] : List Int)) := ⟨_, rfl⟩
      replace H : ((spec_l01PickInt.f s0_0 t222 t223 y224).bind fun bt227 => (if 0 ≤ t221 then (if t221 < (x3_1.length : Int) then (spec_l01Blur.j1 k1 (x3_1.set (t221 : Int).toNat ((bt227.1) % 256)) s0_0 bt227.2.1 bt227.2.2) else (none)) else (none))) = some (r1, r2, r3) := by first | (rw [hy224]; with_reducible exact H) | (have H2_ := (Option.bind_some _ _).symm.trans H; rw [hy224]; with_reducible exact H2_) | (have H2_ := (Option.bind_some _ _).symm.trans H; with_reducible exact H2_) | with_reducible exact H | (rw [hy224]; exact H) | exact H
      have Ny224 := uD hy224
      clear hy224
      replace H := Option.bind_eq_some_iff.mp H
      obtain ⟨⟨t227, t228, t229⟩, A280, H⟩ := H
      replace H : (if 0 ≤ t221 then (if t221 < (x3_1.length : Int) then (spec_l01Blur.j1 k1 (x3_1.set (t221 : Int).toNat ((t227) % 256)) s0_0 t228 t229) else (none)) else (none)) = some (r1, r2, r3) := H
      have A28 := uD A280
      clear A280
      by_cases c29 : 0 ≤ t221
      ·rw [if_pos c29] at H
       have c29b0 : decide (0 ≤ t221) = true := decide_eq_true c29
       clear c29
       (first | rw [c29b0] | (simp only [uZ, ua]; rw [c29b0]) | skip)
       by_cases c30 : t221 < (x3_1.length : Int)
       ·rw [if_pos c30] at H
        have c30b0 : decide (t221 < (x3_1.length : Int)) = true := decide_eq_true c30
        clear c30
        obtain ⟨y230, hy230⟩ : ∃ y_ : List Int, y_ = (x3_1.set (t221 : Int).toNat ((t227) % 256)) := ⟨_, rfl⟩
        replace H : (spec_l01Blur.j1 k1 y230 s0_0 t228 t229) = some (r1, r2, r3) := by first | (rw [hy230]; with_reducible exact H) | (have H2_ := (Option.bind_some _ _).symm.trans H; rw [hy230]; with_reducible exact H2_) | (have H2_ := (Option.bind_some _ _).symm.trans H; with_reducible exact H2_) | with_reducible exact H | (rw [hy230]; exact H) | exact H
        have Ny230 := uD hy230
        clear hy230
        have H' := uD H
        clear H
        go_wp2_with (first | ((with_reducible refine gate_callee (f := 57) rfl ?_); refine gl (some 28) Tryd.func57 #[.pointer (some ⟨g, 0, none⟩), .int .i64 12] ?_; (with_reducible refine (spec_l01Below.calls g s0_0 t219 t220 12 t221 t222 t223 w0 _ ?side1 ?side2 A27.out).mono ?_); (case side1 => exact IsS67.p HI0); (case side2 => exact pB HB (IsS67.ge HI0.out)); rintro e w32 ⟨rfl, hi, hb, hk⟩; refine ⟨_, rfl, ?_⟩; replace HO_3 := uD (HO_3.out.move (hk.2 go HO_3.out.lt NEg.out (by simp))); replace HK := uD (KeepBut.trans (ph HK) hk (.inl rfl)); replace HB := uD (hb); replace HI0 := uD (hi); (try clear hb); (try clear hb2); (try clear hk); (try clear hi)) | ((with_reducible refine gate_dst (N := 30) rfl ?_); refine Kd.R_lit (Kd.int .i64) _ 3 ?hg (N := 30) ?hd (xs := ([48, 49, 57, 63, 45, 65, 58] : List Int)) (inner := [.int .i64 48, .int .i64 49, .int .i64 57, .int .i64 63, .int .i64 45, .int .i64 65, .int .i64 58]) (ok := fun _ => True) (okp := fun _ => True) ?hr ?hp (fun _ hk => hk) trivial (Below.refl _ _) (Nat.le_refl _) (by simp) ?_; (case hd => rfl); (case hg => rfl); (case hr => first | (go_simp; done) | (go_simp; rfl)); (case hp => exact (Reps.one (show Kd.M (Kd.int .i64) _ _ _ 48 [.int .i64 48] from rfl) (Reps.one (show Kd.M (Kd.int .i64) _ _ _ 49 [.int .i64 49] from rfl) (Reps.one (show Kd.M (Kd.int .i64) _ _ _ 57 [.int .i64 57] from rfl) (Reps.one (show Kd.M (Kd.int .i64) _ _ _ 63 [.int .i64 63] from rfl) (Reps.one (show Kd.M (Kd.int .i64) _ _ _ 45 [.int .i64 45] from rfl) (Reps.one (show Kd.M (Kd.int .i64) _ _ _ 65 [.int .i64 65] from rfl) (Reps.one (show Kd.M (Kd.int .i64) _ _ _ 58 [.int .i64 58] from rfl) (Reps.none _ _))))))))); intro v225 w33 ho34 hb hg_ hnew_; clear hg_ hnew_; (first | rw [← Ny224.out] at ho34 | (simp only [Int.reduceToNat] at ho34; rw [← Ny224.out] at ho34)); replace HO_3 := uD (HO_3.out.below hb); have HO226 := uD (Kd.R_lower ho34 (keep_size (w := w) (g := g) (row := none) (ph HK))); replace HK := uD (KeepBut.trans (ph HK) (KeepBut.of_below hb g none) (.inl rfl)); replace HB := uD (uO (pB HB (IsS67.ge HI0.out)) hb); replace HI0 := uD (IsS67.below (IsS67.p HI0) hb); clear hb ho34; obtain ⟨Ao35, co35, eo35⟩ := Kd.R_slice HO226.out; subst eo35) | ((with_reducible refine gate_callee (f := 61) rfl ?_); refine gl (some 31) Tryd.func61 #[.pointer (some ⟨g, 0, none⟩), .slice Ao35 y224.length co35] ?_; (with_reducible refine (spec_l01PickInt.calls g s0_0 t222 t223 _ _ y224 t227 t228 t229 w0 _ ?side1 ?side2 ?side3 ?side4 ?side5 A28.out).mono ?_); (case side1 => exact IsS67.p HI0); (case side2 => exact pB HB (IsS67.ge HI0.out)); (case side3 => exact pc ((Kd.R_reads' HO226.out).2.2)); (case side4 => exact (Kd.R_reads' HO226.out).2.1); (case side5 => exact far_slice (IsS67.own_ne HI0.out HO226.out (by decide))); rintro e w36 ⟨rfl, hi, hb, hk⟩; refine ⟨_, rfl, ?_⟩; replace HO_3 := uD (HO_3.out.move (hk.2 go HO_3.out.lt NEg.out (by simp))); replace HO226 := uD (uX (Kd.R_keep (IsS67.apart (show IsS67 w0 _ g s0_0 t222 t223 from IsS67.p HI0) (pr HO226) (by decide)) hk (fun _ h => h.2)) (fun _ h => h.1)); replace HK := uD (KeepBut.trans (ph HK) hk (.inl rfl)); replace HB := uD (hb); replace HI0 := uD (hi); (try clear hb); (try clear hb2); (try clear hk); (try clear hi); have p31 : 0 ≤ (t221 : Int) := of_decide_eq_true (by first | (with_reducible assumption) | assumption); have q31 : (t221 : Int) < ((x3_1.length : Int) : Int) := of_decide_eq_true (by first | (with_reducible assumption) | assumption); have qn31 := eq_true (show (t221 : Int) < (n : Int) by rw [← HN.out]; exact q31); obtain ⟨hx31_0, hf31_0⟩ := HO_3.out.cell (t221 : Int) p31 q31; have hput := fun x => HO_3.out.put (t221 : Int) x p31 q31; replace p31 := eq_true p31; replace q31 := eq_true q31; have HP37 := uD (hput (((t227) % 256))); clear hput) | ((with_reducible refine gate_store (t := 5) (p := 33) rfl ?_); refine store_event (t := 5) (p := 33) (v := ?vo_w38) (w1 := (w36.setCell ⟨go, (t221 : Int).toNat, none⟩ (.int .u8 ((t227) % 256)))) ?hg ?ho ?hn ?hr ?_; (case ho => rfl); (case hg => rfl); (case hn => rfl); (case hr => first | (go_simp; done) | (go_simp; rfl)); intro w38 hw; have hp_ : Fb 5 w38 go y230 := (by rw [hw, Ny230.out]; exact HP37.out); clear HP37; replace HI0 := uD (show IsS67 w0 w38 g s0_0 _ _ by rw [hw]; exact IsS67.far (IsS67.p HI0) (p := ⟨go, (t221 : Int).toNat, none⟩) (Ne.symm NEg.out) _); replace HB := uD ((by rw [hw]; exact uM (HB.out) (Nat.le_trans HL.out GG.out) : Below w0.heap.size w0 w38)); replace HK := uD (show KeepBut w w38 g none by rw [hw]; exact keep_far (p := ⟨go, (t221 : Int).toNat, none⟩) (ph HK) GG.out _); replace HO_3 := uD (hp_); clear hw hp_))
        go_meet
        case rel => exact ⟨_, (y230), (t228), (t229), H', ⟨by have := HK1.out; first | omega | exact Nat.le_refl _⟩, HO_3, ⟨by rw [Ny230.out, List.length_set]; exact HN.out⟩, ⟨IsS67.p HI0⟩, ⟨ph HK⟩, ⟨pB HB (IsS67.ge HI0.out)⟩⟩
       ·rw [if_neg c30] at H
        exact absurd H (by simp)
      ·rw [if_neg c29] at H
       exact absurd H (by simp)
     ·replace c26 := Bool.eq_false_iff.mpr c26
      subst c26
      have H1 : (spec_l01Blur.j1 k1 x3_1 s0_0 t219 t220) = some (r1, r2, r3) := by rw [if_neg (show ¬ (false = true) by decide)] at H; first | done | exact H
      clear H
      have H := H1
      clear H1
      have H' := uD H
      clear H
      go_wp2
      go_meet
      case rel => exact ⟨_, (x3_1), (t219), (t220), H', ⟨by have := HK1.out; first | omega | exact Nat.le_refl _⟩, HO_3, HN, ⟨IsS67.p HI0⟩, ⟨ph HK⟩, ⟨pB HB (IsS67.ge HI0.out)⟩⟩
    case rest =>
     clear HC24
     try clear c1
     try clear p1
     try clear q1
     try clear hx1
     try clear hf1
     try clear c2
     try clear p2
     try clear c3
     try clear p3
     try clear q3
     try clear hx3
     try clear hf3
     try clear c4
     try clear c5
     try clear c6
     try clear p6
     try clear c12
     try clear c13
     try clear c13b0
     try clear c15
     try clear c15b0
     try clear c15b1
     try clear c17
     try clear c17b0
     try clear c18
     try clear c18b0
     try clear p19
     try clear q19
     try clear hx19
     try clear hf19
     try clear c26
     try clear c29
     try clear c29b0
     try clear c30
     try clear c30b0
     try clear p31
     try clear q31
     try clear hx31
     try clear hf31
     try clear hx19_0
     try clear hx31_0
     try clear p19
     try clear p2
     try clear p31
     try clear q19
     try clear q31
     obtain ⟨kq, x3_23, x1001_23, x1002_23, HA, HJ23, HO_3, HN, HI0, HK, HB⟩ := hcut
     cases kq with
     | zero => exact absurd HA.out (by simp [spec_l01Blur.j1])
     | succ kj23 =>
      have H := HA.out
      clear HA
      simp only [spec_l01Blur.j1] at H
      replace H := Option.bind_eq_some_iff.mp H
      obtain ⟨⟨t231, t232, t233⟩, A390, H⟩ := H
      replace H : (if t231 = true then ((spec_l01Pick.f s0_0 t232 t233 (([(⟨#[]⟩ : ByteArray), (⟨#[48]⟩ : ByteArray), (⟨#[63]⟩ : ByteArray)] : List ByteArray))).bind fun bt237 => (if (strOfNums x3_23).size + bt237.1.size ≤ 9223372036854775807 then (some ((strOfNums x3_23) ++ bt237.1, bt237.2.1, bt237.2.2)) else (none))) else (some (strOfNums x3_23, t232, t233))) = some (r1, r2, r3) := H
      have A39 := uD A390
      clear A390
      by_cases c40 : t231 = true
      ·subst c40
       have H1 : ((spec_l01Pick.f s0_0 t232 t233 (([(⟨#[]⟩ : ByteArray), (⟨#[48]⟩ : ByteArray), (⟨#[63]⟩ : ByteArray)] : List ByteArray))).bind fun bt237 => (if (strOfNums x3_23).size + bt237.1.size ≤ 9223372036854775807 then (some ((strOfNums x3_23) ++ bt237.1, bt237.2.1, bt237.2.2)) else (none))) = some (r1, r2, r3) := by rw [if_pos rfl] at H; first | done | exact H
       clear H
       have H := H1
       clear H1
       obtain ⟨y234, hy234⟩ : ∃ y_ : List ByteArray, y_ = (([(⟨#[]⟩ : ByteArray), (⟨#[48]⟩ : ByteArray), (⟨#[63]⟩ : ByteArray)] : List ByteArray)) := ⟨_, rfl⟩
       replace H : ((spec_l01Pick.f s0_0 t232 t233 y234).bind fun bt237 => (if (strOfNums x3_23).size + bt237.1.size ≤ 9223372036854775807 then (some ((strOfNums x3_23) ++ bt237.1, bt237.2.1, bt237.2.2)) else (none))) = some (r1, r2, r3) := by first | (rw [hy234]; with_reducible exact H) | (have H2_ := (Option.bind_some _ _).symm.trans H; rw [hy234]; with_reducible exact H2_) | (have H2_ := (Option.bind_some _ _).symm.trans H; with_reducible exact H2_) | with_reducible exact H | (rw [hy234]; exact H) | exact H
       have Ny234 := uD hy234
       clear hy234
       replace H := Option.bind_eq_some_iff.mp H
       obtain ⟨⟨t237, t238, t239⟩, A410, H⟩ := H
       replace H : (if (strOfNums x3_23).size + t237.size ≤ 9223372036854775807 then (some ((strOfNums x3_23) ++ t237, t238, t239)) else (none)) = some (r1, r2, r3) := H
       have A41 := uD A410
       clear A410
       by_cases c42 : (strOfNums x3_23).size + t237.size ≤ 9223372036854775807
       ·rw [if_pos c42] at H
        have c42b0 := eq_true c42
        have c42b1 : decide ((strOfNums x3_23).size + t237.size ≤ 9223372036854775807) = true := decide_eq_true c42
        try have c42b2 : (9223372036854775807 < (strOfNums x3_23).size + t237.size) = False := eq_false (Nat.not_lt.2 c42)
        simp only [Option.some.injEq, Prod.mk.injEq] at H
        obtain ⟨rfl, rfl, rfl⟩ := H
        try go_wp2_with (first | ((with_reducible refine gate_callee (f := 56) rfl ?_); refine gl (some 35) Tryd.func56 #[.pointer (some ⟨g, 0, none⟩), .int .i64 20] ?_; (with_reducible refine (spec_l01Once.calls g s0_0 x1001_23 x1002_23 20 true t232 t233 w0 _ ?side1 ?side2 A39.out).mono ?_); (case side1 => exact IsS67.p HI0); (case side2 => exact pB HB (IsS67.ge HI0.out)); rintro e w43 ⟨rfl, hi, hb, hk⟩; refine ⟨_, rfl, ?_⟩; replace HO_3 := uD (HO_3.out.move (hk.2 go HO_3.out.lt NEg.out (by simp))); replace HK := uD (KeepBut.trans (ph HK) hk (.inl rfl)); replace HB := uD (hb); replace HI0 := uD (hi); (try clear hb); (try clear hb2); (try clear hk); (try clear hi)))
        replace HO_3 := uD (HO_3.out.drew)
        replace HI0 := uD (IsS67.drew HI0.out)
        replace HK := uD (keep_drew HK.out)
        replace HB := uD (uK HB.out)
        refine start_ (n := 7) (S := fun w' => (convert 37 9 (.slice (some ⟨go, 0, none⟩) n co)).run Tryd.prog w' = .ok (.string (strOfNums x3_23)) w') (ds := []) #[F,F,F,F,F,F,F] (by kernel_rfl) rfl rfl (by have h_ := Fb.string Tryd.underlying37 Tryd.underlying5 Tryd.underlying9 HO_3.out co; rw [HN.out] at h_; exact h_) (fun hHeld => ?_)
        generalize w43.drew = w44 at HO_3 HI0 HK HB hHeld ⊢
        refine ub (i := 0) (N := some 36) (v := ?_) (a' := ?_) #[T,F,F,F,F,F,F] rfl rfl (by kernel_rfl) (fun _ _ _ h => h) (Or.inl ⟨by rfl, ?_⟩) ?_ ?_
        rotate_left;(intro w';go_simp;with_reducible rfl);rotate_left;(simp only [uc,uA,uB,uC,uZ,ua];rfl)
        refine take_ (i := 1) (N := some 37) (v := ?_) (a' := ?_) #[T,T,F,F,F,F,F] rfl rfl (by kernel_rfl) (fun _ _ _ h => h) (Or.inl ⟨by rfl, ?_⟩) hHeld ?_ ?_
        rotate_left;(intro w' s0;go_simp;with_reducible rfl);rotate_left;(simp only [uc,uA,uB,uC,uZ,ua];rfl)
        refine ub (i := 2) (N := some 38) (v := ?_) (a' := ?_) #[T,T,T,F,F,F,F] rfl rfl (by kernel_rfl) (fun _ _ _ h => h) (Or.inl ⟨by rfl, ?_⟩) ?_ ?_
        rotate_left;(intro w';go_simp;with_reducible rfl);rotate_left;(simp only [uc,uA,uB,uC,uZ,ua];rfl)
        refine one_ (i := 3) (N := some 39) #[T,T,T,T,F,F,F] rfl rfl (by kernel_rfl) (by decide) (fun K hK => ?_)
        refine Kd.R_lit_step Kd.string _ 9 ?hg (N := 39) ?hd (xs := ([(⟨#[]⟩ : ByteArray), (⟨#[48]⟩ : ByteArray), (⟨#[63]⟩ : ByteArray)] : List ByteArray)) (inner := [.string (⟨#[]⟩ : ByteArray), .string (⟨#[48]⟩ : ByteArray), .string (⟨#[63]⟩ : ByteArray)]) (ok := fun _ => True) (okp := fun _ => True) ?hr ?hp (fun _ hk => hk) trivial (Below.refl _ _) (Nat.le_refl _) (by simp) ?_; (case hd => rfl); (case hg => rfl); (case hr => first | (go_simp; done) | (go_simp; rfl)); (case hp => exact (Reps.one (show Kd.M Kd.string _ _ _ (⟨#[]⟩ : ByteArray) [.string (⟨#[]⟩ : ByteArray)] from rfl) (Reps.one (show Kd.M Kd.string _ _ _ (⟨#[48]⟩ : ByteArray) [.string (⟨#[48]⟩ : ByteArray)] from rfl) (Reps.one (show Kd.M Kd.string _ _ _ (⟨#[63]⟩ : ByteArray) [.string (⟨#[63]⟩ : ByteArray)] from rfl) (Reps.none _ _)))))
        intro v235 w46 ho47 hb hg_ hnew_
        clear hg_ hnew_
        (first | rw [← Ny234.out] at ho47 | (simp only [Int.reduceToNat] at ho47; rw [← Ny234.out] at ho47))
        replace HO_3 := uD (HO_3.out.below hb)
        have HO236 := uD (Kd.R_lower ho47 (keep_size (w := w) (g := g) (row := none) (ph HK)))
        replace HK := uD (KeepBut.trans (ph HK) (KeepBut.of_below hb g none) (.inl rfl))
        replace HB := uD (uO (pB HB (IsS67.ge HI0.out)) hb)
        replace HI0 := uD (IsS67.below (IsS67.p HI0) hb)
        clear hb ho47
        obtain ⟨Ao48, co48, eo48⟩ := Kd.R_slice HO236.out
        (first | subst eo48 | (injection eo48 with f1_ f2_ f3_; have f4_ := f1_.symm; have f5_ := f3_.symm; clear f1_ f2_ f3_; subst f4_; subst f5_))
        clear hHeld
        refine hK.out _ _ (by have h_ := Fb.string Tryd.underlying37 Tryd.underlying5 Tryd.underlying9 HO_3.out co; rw [HN.out] at h_; exact h_) (fun hHeld => ?_)
        clear hK K
        refine norm_ (a' := ?_) ?_ ?_
        rotate_left
        ·show uc _ (some 39) _ = _
         simp only [uc, uA, uB, uC, uZ, ua]
         rfl
        refine one_ (i := 4) (N := some 40) #[T,T,T,T,T,F,F] rfl rfl (by kernel_rfl) (by decide) (fun K hK => ?_)
        refine goes_ Tryd.func62 (by kernel_rfl) rfl #[.pointer (some ⟨g, 0, none⟩), .slice Ao48 y234.length co48] (by rfl) rfl rfl (by (try simp only [List.map_toArray, List.map_cons, List.map_nil]); first | done | rfl | (simp only [List.length_drop, List.length_take]; rfl)) ?_
        with_reducible refine (spec_l01Pick.calls g s0_0 t232 t233 _ _ y234 t237 t238 t239 w0 _ ?side1 ?side2 ?side3 ?side4 ?side5 A41.out).mono ?_
        (case side1 => exact IsS67.p HI0)
        (case side2 => exact pB HB (IsS67.ge HI0.out))
        (case side3 => exact pc ((Kd.R_reads' HO236.out).2.2))
        (case side4 => exact (Kd.R_reads' HO236.out).2.1)
        (case side5 => exact far_slice (IsS67.own_ne HI0.out HO236.out (by decide)))
        rintro e w49 ⟨rfl, hi, hb, hk⟩
        refine ⟨_, rfl, ?_⟩
        replace HO_3 := uD (HO_3.out.move (hk.2 go HO_3.out.lt NEg.out (by simp)))
        replace HO236 := uD (uX (Kd.R_keep (IsS67.apart (show IsS67 w0 _ g s0_0 t232 t233 from IsS67.p HI0) (pr HO236) (by decide)) hk (fun _ h => h.2)) (fun _ h => h.1))
        replace HK := uD (KeepBut.trans (ph HK) hk (.inl rfl))
        replace HB := uD (hb)
        replace HI0 := uD (hi)
        (try clear hb)
        (try clear hb2)
        (try clear hk)
        (try clear hi)
        clear hHeld
        refine hK.out _ _ (by have h_ := Fb.string Tryd.underlying37 Tryd.underlying5 Tryd.underlying9 HO_3.out co; rw [HN.out] at h_; exact h_) (fun hHeld => ?_)
        clear hK K
        refine norm_ (a' := ?_) ?_ ?_
        rotate_left
        ·show uc _ (some 40) _ = _
         simp only [uc, uA, uB, uC, uZ, ua]
         rfl
        refine ub (i := 5) (N := some 41) (v := ?_) (a' := ?_) #[T,T,T,T,T,T,F] rfl rfl (by kernel_rfl) (fun _ _ _ h => h) (Or.inl ⟨by rfl, ?_⟩) ?_ ?_
        rotate_left;(intro w';go_simp;with_reducible rfl);rotate_left;(simp only [uc,uA,uB,uC,uZ,ua];rfl)
        refine ub (i := 6) (N := some 2) (v := ?_) (a' := ?_) #[T,T,T,T,T,T,T] rfl rfl (by kernel_rfl) (fun _ _ _ h => h) (Or.inl ⟨by rfl, ?_⟩) ?_ ?_
        rotate_left;(intro w';go_simp;with_reducible rfl);rotate_left;(simp only [uc,uA,uB,uC,uZ,ua];rfl)
        refine done_ (by kernel_rfl) ?_
        try go_wp2
        go_ret
        exact ⟨by first | rfl | (simp [errW_none, errW_some] <;> rfl) | (simp [*, errW_none, errW_some] <;> rfl), IsS67.p HI0, pB HB (IsS67.ge HI0.out), ph HK⟩
       ·rw [if_neg c42] at H
        exact absurd H (by simp)
      ·replace c40 := Bool.eq_false_iff.mpr c40
       subst c40
       have H1 : (some (strOfNums x3_23, t232, t233)) = some (r1, r2, r3) := by rw [if_neg (show ¬ (false = true) by decide)] at H; first | done | exact H
       clear H
       have H := H1
       clear H1
       simp only [Option.some.injEq, Prod.mk.injEq] at H
       obtain ⟨rfl, rfl, rfl⟩ := H
       go_wp2_with (first | ((with_reducible refine gate_callee (f := 56) rfl ?_); refine gl (some 35) Tryd.func56 #[.pointer (some ⟨g, 0, none⟩), .int .i64 20] ?_; (with_reducible refine (spec_l01Once.calls g s0_0 x1001_23 x1002_23 20 false t232 t233 w0 _ ?side1 ?side2 A39.out).mono ?_); (case side1 => exact IsS67.p HI0); (case side2 => exact pB HB (IsS67.ge HI0.out)); rintro e w51 ⟨rfl, hi, hb, hk⟩; refine ⟨_, rfl, ?_⟩; replace HO_3 := uD (HO_3.out.move (hk.2 go HO_3.out.lt NEg.out (by simp))); replace HK := uD (KeepBut.trans (ph HK) hk (.inl rfl)); replace HB := uD (hb); replace HI0 := uD (hi); (try clear hb); (try clear hb2); (try clear hk); (try clear hi); have hcv52 : (convert 37 9 (.slice (some ⟨go, 0, none⟩) n co)).run Tryd.prog w51 = .ok (.string (strOfNums x3_23)) w51 := (by have h_ := Fb.string Tryd.underlying37 Tryd.underlying5 Tryd.underlying9 HO_3.out co; rw [HN.out] at h_; exact h_)))
       go_ret
       exact ⟨by first | rfl | (simp [errW_none, errW_some] <;> rfl) | (simp [*, errW_none, errW_some] <;> rfl), IsS67.p HI0, pB HB (IsS67.ge HI0.out), ph HK⟩
/-! ### spec_DrawParseTag: function 37 -/
def spec_DrawParseTag.f (k : Nat) (l0 : List Int) : Option (ByteArray) := (spec_l01New.f k l0).bind fun bt301 => ((spec_l01Blur.f k bt301.1 bt301.2.1 bt301.2.2).bind fun bt305 => (some bt305.1))
theorem spec_DrawParseTag.mono : ∀ a0 k, LeO (spec_DrawParseTag.f k a0) (spec_DrawParseTag.f (k + 1) a0) := by
 intro a0 k
 unfold spec_DrawParseTag.f
 repeat' first
   | (with_reducible exact spec_l01Blur.mono _ _ _ _)
   | (with_reducible exact spec_l01New.mono _ _)
   | (with_reducible exact LeO.refl _)
   | (with_reducible exact LeO.none _)
   | (with_reducible refine LeO.ite ?_ ?_)
   | (with_reducible refine LeO.bind ?_ (fun _ => ?_))
   | exact spec_l01Blur.mono _ _ _ _
   | exact spec_l01New.mono _ _
   | exact LeO.none _
   | refine LeO.ite ?_ ?_
   | refine LeO.bind ?_ (fun _ => ?_)
set_option maxHeartbeats 8000000 in
set_option maxRecDepth 100000 in
theorem spec_DrawParseTag.calls (k : Nat) (A0 : Option Addr) (c0 : Nat) (l0 : List Int) (r : ByteArray) (w : World) (hr0 : Kd.C (Kd.int .u8) w A0 l0.length l0) (hc0 : l0.length ≤ c0) (h : spec_DrawParseTag.f k l0 = some r) :
  Calls Tryd.prog 37 #[.slice A0 l0.length c0] w fun e w' => e = .returned (.string r) ∧ Below w.heap.size w w' := by
 have HR0 := uD hr0
 have HC0 := uD hc0
 clear hr0 hc0
 have HB := uD (Below.refl w.heap.size w)
 have H : ((spec_l01New.f k l0).bind fun bt301 => ((spec_l01Blur.f k bt301.1 bt301.2.1 bt301.2.2).bind fun bt305 => (some bt305.1))) = some r := h
 clear h
 replace H := Option.bind_eq_some_iff.mp H
 obtain ⟨⟨t301, t302, t303⟩, A20, H⟩ := H
 replace H : ((spec_l01Blur.f k t301 t302 t303).bind fun bt305 => (some bt305.1)) = some r := H
 have A2 := uD A20
 clear A20
 replace H := Option.bind_eq_some_iff.mp H
 obtain ⟨⟨t305, t306, t307⟩, A30, H⟩ := H
 replace H : (some t305) = some r := H
 have A3 := uD A30
 clear A30
 obtain rfl := Option.some.inj H
 go_enter Tryd.func37, Tryd.ntmps37
 go_wp2_with (first | ((with_reducible refine gate_callee (f := 48) rfl ?_); refine gl (some 4) Tryd.func48 #[.slice A0 l0.length c0] ?_; (with_reducible refine (spec_l01New.calls k _ _ l0 t301 t302 t303 w _ ?side1 ?side2 ?side3 A2.out).mono ?_); (case side1 => repeat (first | (with_reducible first | exact HB.out | apply uL | apply uE | apply uK) | exact HB.out)); (case side2 => exact HR0.out); (case side3 => exact HC0.out); rintro e w4 ⟨g304, rfl, hi, hb, hb2⟩; refine ⟨_, rfl, ?_⟩; replace HB := uD (hb); have HI304 := uD (hi); (try clear hb); (try clear hb2); (try clear hk); (try clear hi)) | ((with_reducible refine gate_callee (f := 47) rfl ?_); refine gl (some 5) Tryd.func47 #[.pointer (some ⟨g304, 0, none⟩)] ?_; (with_reducible refine (spec_l01Blur.calls k g304 t301 t302 t303 t305 t306 t307 w _ ?side1 ?side2 A3.out).mono ?_); (case side1 => exact IsS67.p HI304); (case side2 => exact pB HB (IsS67.ge HI304.out)); rintro e w5 ⟨rfl, hi, hb, hk⟩; refine ⟨_, rfl, ?_⟩; replace HB := uD (hb); replace HI304 := uD (hi); (try clear hb); (try clear hb2); (try clear hk); (try clear hi)))
 go_ret
 exact ⟨by first | rfl | (simp [errW_none, errW_some] <;> rfl) | (simp [*, errW_none, errW_some] <;> rfl), pB HB (IsS67.ge HI304.out)⟩

end Go.Proofs.YtnkaimdcdedekaaDoor.PFnTags
