-- Written by a program of this session (wip/myprint.py: the kit's print with changes): not by print.sh itself.
import Derived.Test.YtnnimbbffbfhoaaPFnAssignedx0
import Derived.Test.YtnnimbbffbfhoaaPFnAssignedx5
namespace Go.Proofs.Ytnnimbbffbfhoaa.PFnAssigned
open Go.RowKit Go.Proofs.YtnnimbbffbfhoaaW.PrintWords Go.Proofs.YtnnimbbffbfhoaaW.PrintLast Go.Proofs.YtnnimbbffbfhoaaW.PrintMore
open Go renaming Act.put → uc
open Go.Proofs.YtnnimbbffbfhoaaW.PrintLast renaming i64_w → uZ, i32_w → ua
open Go.Proofs.YtnnimbbffbfhoaaW.PrintWords renaming Aside0.mk → uD, below_drew1 → uK, below_size → uN, below_step → uO, Kd.R_drewN → uS, Kd.R_drew → uT, Kd.R_alloc → uU, Kd.R_mono → uX
open List renaming setIfInBounds_toArray → uA, set_cons_zero → uB, set_cons_succ → uC
open Bool renaming true → T, false → F
attribute [local go_sem] max2_int min2_int max_two min_two max_three min_three max_four min_four   -- for this text's walks alone
set_option linter.unusedVariables false
set_option linter.unusedSimpArgs false

/-! ### spec_l03Most: function 67 -/
mutual
def spec_l03Most.j0 : Nat → List (S47) → List (S49) → Int → List Int → Int → Int → Int → Bool → Option (Int)
 | 0, _, _, _, _, _, _, _, _ => none
 | k + 1, x0, x1, x2, x3, x4, x5, x13, x27 => if x27 = true then ((spec_l03Most.f k x0 x1 (wrap64 (x2 + 1)) x3 x4 x5).bind fun t174 => (spec_l03Most.j1 k x0 x1 x2 x3 x4 x5 t174)) else (spec_l03Most.j1 k x0 x1 x2 x3 x4 x5 x13)
def spec_l03Most.j1 : Nat → List (S47) → List (S49) → Int → List Int → Int → Int → Int → Option (Int)
 | 0, _, _, _, _, _, _, _ => none
 | k + 1, x0, x1, x2, x3, x4, x5, x13 => spec_l03Most.l0 k x0 x1 x2 x3 x4 x5 x13 0
def spec_l03Most.l0 : Nat → List (S47) → List (S49) → Int → List Int → Int → Int → Int → Int → Option (Int)
 | 0, _, _, _, _, _, _, _, _ => none
 | k + 1, x0, x1, x2, x3, x4, x5, x13, x14 => if x14 < (x0.length : Int) then ((spec_l03Fits.f k x0 x1 x2 x14).bind fun t175 => (if t175 = true then (if 0 ≤ x14 then ((spec_l03Has.f k x3 ((rd_T47 x0 x14).f0)).bind fun t177 => (if t177 = true then (spec_l03Most.j3 k x0 x1 x2 x3 x4 x5 x13 x14 true) else (if x2 = x4 then (spec_l03Most.j3 k x0 x1 x2 x3 x4 x5 x13 x14 (x5 != ((rd_T47 x0 x14).f0))) else (spec_l03Most.j3 k x0 x1 x2 x3 x4 x5 x13 x14 false)))) else (none)) else (spec_l03Most.j3 k x0 x1 x2 x3 x4 x5 x13 x14 true))) else (some x13)
def spec_l03Most.j3 : Nat → List (S47) → List (S49) → Int → List Int → Int → Int → Int → Int → Bool → Option (Int)
 | 0, _, _, _, _, _, _, _, _, _ => none
 | k + 1, x0, x1, x2, x3, x4, x5, x13, x14, x70 => if x70 = true then (spec_l03Most.l0 k x0 x1 x2 x3 x4 x5 x13 (wrap64 (x14 + 1))) else ((some (([] : List Int) : List Int)).bind fun y179 => (if y179.length + x3.length < 17592186044416 then ((some (y179 ++ x3 : List Int)).bind fun y182 => (if 0 ≤ x14 then (if x14 < (x0.length : Int) then ((some (([(rd_T47 x0 x14).f0] : List Int) : List Int)).bind fun y186 => (if y182.length + y186.length < 17592186044416 then ((spec_l03Most.f k x0 x1 (wrap64 (x2 + 1)) (y182 ++ y186) x4 x5).bind fun t192 => (if t192 ≥ 0 then (if (wrap64 (t192 + 1)) > x13 then (spec_l03Most.l0 k x0 x1 x2 x3 x4 x5 (wrap64 (t192 + 1)) (wrap64 (x14 + 1))) else (spec_l03Most.l0 k x0 x1 x2 x3 x4 x5 x13 (wrap64 (x14 + 1)))) else (spec_l03Most.l0 k x0 x1 x2 x3 x4 x5 x13 (wrap64 (x14 + 1))))) else (none))) else (none)) else (none))) else (none)))
def spec_l03Most.f : Nat → List (S47) → List (S49) → Int → List Int → Int → Int → Option (Int)
 | 0, _, _, _, _, _, _ => none
 | k + 1, l0, l1, a2, l3, a4, a5 => if a2 ≥ (l1.length : Int) then (some 0) else (if a2 = a4 then (spec_l03Most.j0 k l0 l1 a2 l3 a4 a5 (-1) (a5 == 0)) else (spec_l03Most.j0 k l0 l1 a2 l3 a4 a5 (-1) true))
end
theorem spec_l03Most.mono_l : ∀ k, (∀ y0 y1 y2 y3 y4 y5, LeO (spec_l03Most.f k y0 y1 y2 y3 y4 y5) (spec_l03Most.f (k + 1) y0 y1 y2 y3 y4 y5)) ∧ (∀ y0 y1 y2 y3 y4 y5 y6 y7, LeO (spec_l03Most.j0 k y0 y1 y2 y3 y4 y5 y6 y7) (spec_l03Most.j0 (k + 1) y0 y1 y2 y3 y4 y5 y6 y7)) ∧ (∀ y0 y1 y2 y3 y4 y5 y6, LeO (spec_l03Most.j1 k y0 y1 y2 y3 y4 y5 y6) (spec_l03Most.j1 (k + 1) y0 y1 y2 y3 y4 y5 y6)) ∧ (∀ y0 y1 y2 y3 y4 y5 y6 y7, LeO (spec_l03Most.l0 k y0 y1 y2 y3 y4 y5 y6 y7) (spec_l03Most.l0 (k + 1) y0 y1 y2 y3 y4 y5 y6 y7)) ∧ (∀ y0 y1 y2 y3 y4 y5 y6 y7 y8, LeO (spec_l03Most.j3 k y0 y1 y2 y3 y4 y5 y6 y7 y8) (spec_l03Most.j3 (k + 1) y0 y1 y2 y3 y4 y5 y6 y7 y8))
 | 0 => ⟨fun _ _ _ _ _ _ r h => by simp [spec_l03Most.f] at h, fun _ _ _ _ _ _ _ _ r h => by simp [spec_l03Most.j0] at h, fun _ _ _ _ _ _ _ r h => by simp [spec_l03Most.j1] at h, fun _ _ _ _ _ _ _ _ r h => by simp [spec_l03Most.l0] at h, fun _ _ _ _ _ _ _ _ _ r h => by simp [spec_l03Most.j3] at h⟩
 | k + 1 => by
  obtain ⟨ih0, ih1, ih2, ih3, ih4⟩ := spec_l03Most.mono_l k
  refine ⟨?_, ?_, ?_, ?_, ?_⟩
  ·intro y0 y1 y2 y3 y4 y5
   unfold spec_l03Most.f
   repeat' first
   | (with_reducible exact ih0 _ _ _ _ _ _)
   | (with_reducible exact ih1 _ _ _ _ _ _ _ _)
   | (with_reducible exact ih2 _ _ _ _ _ _ _)
   | (with_reducible exact ih3 _ _ _ _ _ _ _ _)
   | (with_reducible exact ih4 _ _ _ _ _ _ _ _ _)
   | (with_reducible exact spec_l03Fits.mono _ _ _ _ _)
   | (with_reducible exact spec_l03Has.mono _ _ _)
   | (with_reducible exact LeO.refl _)
   | (with_reducible exact LeO.none _)
   | (with_reducible refine LeO.ite ?_ ?_)
   | (with_reducible refine LeO.bind ?_ (fun _ => ?_))
   | exact ih0 _ _ _ _ _ _
   | exact ih1 _ _ _ _ _ _ _ _
   | exact ih2 _ _ _ _ _ _ _
   | exact ih3 _ _ _ _ _ _ _ _
   | exact ih4 _ _ _ _ _ _ _ _ _
   | exact spec_l03Fits.mono _ _ _ _ _
   | exact spec_l03Has.mono _ _ _
   | exact LeO.none _
   | refine LeO.ite ?_ ?_
   | refine LeO.bind ?_ (fun _ => ?_)
  ·intro y0 y1 y2 y3 y4 y5 y6 y7
   unfold spec_l03Most.j0
   repeat' first
   | (with_reducible exact ih0 _ _ _ _ _ _)
   | (with_reducible exact ih1 _ _ _ _ _ _ _ _)
   | (with_reducible exact ih2 _ _ _ _ _ _ _)
   | (with_reducible exact ih3 _ _ _ _ _ _ _ _)
   | (with_reducible exact ih4 _ _ _ _ _ _ _ _ _)
   | (with_reducible exact spec_l03Fits.mono _ _ _ _ _)
   | (with_reducible exact spec_l03Has.mono _ _ _)
   | (with_reducible exact LeO.refl _)
   | (with_reducible exact LeO.none _)
   | (with_reducible refine LeO.ite ?_ ?_)
   | (with_reducible refine LeO.bind ?_ (fun _ => ?_))
   | exact ih0 _ _ _ _ _ _
   | exact ih1 _ _ _ _ _ _ _ _
   | exact ih2 _ _ _ _ _ _ _
   | exact ih3 _ _ _ _ _ _ _ _
   | exact ih4 _ _ _ _ _ _ _ _ _
   | exact spec_l03Fits.mono _ _ _ _ _
   | exact spec_l03Has.mono _ _ _
   | exact LeO.none _
   | refine LeO.ite ?_ ?_
   | refine LeO.bind ?_ (fun _ => ?_)
  ·intro y0 y1 y2 y3 y4 y5 y6
   unfold spec_l03Most.j1
   repeat' first
   | (with_reducible exact ih0 _ _ _ _ _ _)
   | (with_reducible exact ih1 _ _ _ _ _ _ _ _)
   | (with_reducible exact ih2 _ _ _ _ _ _ _)
   | (with_reducible exact ih3 _ _ _ _ _ _ _ _)
   | (with_reducible exact ih4 _ _ _ _ _ _ _ _ _)
   | (with_reducible exact spec_l03Fits.mono _ _ _ _ _)
   | (with_reducible exact spec_l03Has.mono _ _ _)
   | (with_reducible exact LeO.refl _)
   | (with_reducible exact LeO.none _)
   | (with_reducible refine LeO.ite ?_ ?_)
   | (with_reducible refine LeO.bind ?_ (fun _ => ?_))
   | exact ih0 _ _ _ _ _ _
   | exact ih1 _ _ _ _ _ _ _ _
   | exact ih2 _ _ _ _ _ _ _
   | exact ih3 _ _ _ _ _ _ _ _
   | exact ih4 _ _ _ _ _ _ _ _ _
   | exact spec_l03Fits.mono _ _ _ _ _
   | exact spec_l03Has.mono _ _ _
   | exact LeO.none _
   | refine LeO.ite ?_ ?_
   | refine LeO.bind ?_ (fun _ => ?_)
  ·intro y0 y1 y2 y3 y4 y5 y6 y7
   unfold spec_l03Most.l0
   repeat' first
   | (with_reducible exact ih0 _ _ _ _ _ _)
   | (with_reducible exact ih1 _ _ _ _ _ _ _ _)
   | (with_reducible exact ih2 _ _ _ _ _ _ _)
   | (with_reducible exact ih3 _ _ _ _ _ _ _ _)
   | (with_reducible exact ih4 _ _ _ _ _ _ _ _ _)
   | (with_reducible exact spec_l03Fits.mono _ _ _ _ _)
   | (with_reducible exact spec_l03Has.mono _ _ _)
   | (with_reducible exact LeO.refl _)
   | (with_reducible exact LeO.none _)
   | (with_reducible refine LeO.ite ?_ ?_)
   | (with_reducible refine LeO.bind ?_ (fun _ => ?_))
   | exact ih0 _ _ _ _ _ _
   | exact ih1 _ _ _ _ _ _ _ _
   | exact ih2 _ _ _ _ _ _ _
   | exact ih3 _ _ _ _ _ _ _ _
   | exact ih4 _ _ _ _ _ _ _ _ _
   | exact spec_l03Fits.mono _ _ _ _ _
   | exact spec_l03Has.mono _ _ _
   | exact LeO.none _
   | refine LeO.ite ?_ ?_
   | refine LeO.bind ?_ (fun _ => ?_)
  ·intro y0 y1 y2 y3 y4 y5 y6 y7 y8
   unfold spec_l03Most.j3
   repeat' first
   | (with_reducible exact ih0 _ _ _ _ _ _)
   | (with_reducible exact ih1 _ _ _ _ _ _ _ _)
   | (with_reducible exact ih2 _ _ _ _ _ _ _)
   | (with_reducible exact ih3 _ _ _ _ _ _ _ _)
   | (with_reducible exact ih4 _ _ _ _ _ _ _ _ _)
   | (with_reducible exact spec_l03Fits.mono _ _ _ _ _)
   | (with_reducible exact spec_l03Has.mono _ _ _)
   | (with_reducible exact LeO.refl _)
   | (with_reducible exact LeO.none _)
   | (with_reducible refine LeO.ite ?_ ?_)
   | (with_reducible refine LeO.bind ?_ (fun _ => ?_))
   | exact ih0 _ _ _ _ _ _
   | exact ih1 _ _ _ _ _ _ _ _
   | exact ih2 _ _ _ _ _ _ _
   | exact ih3 _ _ _ _ _ _ _ _
   | exact ih4 _ _ _ _ _ _ _ _ _
   | exact spec_l03Fits.mono _ _ _ _ _
   | exact spec_l03Has.mono _ _ _
   | exact LeO.none _
   | refine LeO.ite ?_ ?_
   | refine LeO.bind ?_ (fun _ => ?_)
theorem spec_l03Most.mono : ∀ a0 a1 a2 a3 a4 a5 k, LeO (spec_l03Most.f k a0 a1 a2 a3 a4 a5) (spec_l03Most.f (k + 1) a0 a1 a2 a3 a4 a5) := by
 intro a0 a1 a2 a3 a4 a5 k
 obtain ⟨ih0, ih1, ih2, ih3, ih4⟩ := spec_l03Most.mono_l k
 exact ih0 a0 a1 a2 a3 a4 a5
def spec_l03Most.T10 : Bool × List (List Nat × List Nat) := (true, [([], []), ([], []), ([0, 1], [0, 1]), ([], []), ([], []), ([3, 4], [3, 4]), ([5], [5]), ([6], [6]), ([7], [7]), ([2, 8, 2], [2, 8]), ([9, 9, 0, 1, 2, 3, 4, 5, 6, 7, 8, 9], [9])])
def spec_l03Most.B10 : List Nat := [0, 0, 3, 0, 0, 24, 56, 120, 248, 511, 1023]
theorem spec_l03Most.tab10 : rtab .any (opsOf Try.f67 10) = spec_l03Most.T10 := by kernel_rfl
theorem spec_l03Most.bits10 : waitsOk spec_l03Most.T10.2 spec_l03Most.B10 = true := by kernel_rfl
set_option maxHeartbeats 8000000 in
set_option maxRecDepth 100000 in
theorem spec_l03Most.calls (k : Nat) : ∀ (A0 : Option Addr) (c0 : Nat) (l0 : List (S47)) (A1 : Option Addr) (c1 : Nat) (l1 : List (S49)) (a2 : Int) (A3 : Option Addr) (c3 : Nat) (l3 : List Int) (a4 : Int) (a5 : Int) (r : Int) (w : World) (hr0 : Kd.C k47 w A0 l0.length l0) (hc0 : l0.length ≤ c0) (hr1 : Kd.C k49 w A1 l1.length l1) (hc1 : l1.length ≤ c1) (hr3 : Kd.C (Kd.int .i64) w A3 l3.length l3) (hc3 : l3.length ≤ c3) (h : spec_l03Most.f k l0 l1 a2 l3 a4 a5 = some r),
  Calls Try.prog 67 #[.slice A0 l0.length c0, .slice A1 l1.length c1, .int .i64 a2, .slice A3 l3.length c3, .int .i64 a4, .int .i64 a5] w fun e w' => e = .returned (.int .i64 r) ∧ Below w.heap.size w w' := by
 induction k using Nat.strongRecOn with
 | _ k ih =>
 intro A0 c0 l0 A1 c1 l1 a2 A3 c3 l3 a4 a5 r w hr0 hc0 hr1 hc1 hr3 hc3 h
 cases k with
 | zero => exact absurd h (by simp [spec_l03Most.f])
 | succ k =>
 simp only [spec_l03Most.f] at h
 have HR0 := uD hr0
 have HC0 := uD hc0
 clear hr0 hc0
 have HR1 := uD hr1
 have HC1 := uD hc1
 clear hr1 hc1
 have HR3 := uD hr3
 have HC3 := uD hc3
 clear hr3 hc3
 have HB := uD (Below.refl w.heap.size w)
 have H : (if a2 ≥ (l1.length : Int) then (some 0) else (if a2 = a4 then (spec_l03Most.j0 k l0 l1 a2 l3 a4 a5 (-1) (a5 == 0)) else (spec_l03Most.j0 k l0 l1 a2 l3 a4 a5 (-1) true))) = some r := h
 clear h
 by_cases c7 : a2 ≥ (l1.length : Int)
 ·rw [if_pos c7] at H
  have c7b0 : decide ((l1.length : Int) ≤ a2) = true := decide_eq_true c7
  clear c7
  obtain rfl := Option.some.inj H
  go_enter Try.func67, Try.ntmps67
  go_wp2
  go_ret
  exact ⟨by first | rfl | (simp [errW_none, errW_some] <;> rfl) | (simp [*, errW_none, errW_some] <;> rfl), pb HB⟩
 ·rw [if_neg c7] at H
  have c7b0 : decide ((l1.length : Int) ≤ a2) = false := decide_eq_false c7
  clear c7
  have HC8 := uD H
  clear H
  go_enter Try.func67, Try.ntmps67
  go_upto_region 4 with (fail)
  go_cut [27] (fun v27 wc => ∃ (kq : Nat) (x27_7 : Bool), v27 = .bool x27_7 ∧ Aside0 (spec_l03Most.j0 kq l0 l1 a2 l3 a4 a5 (-1) x27_7 = some r) ∧ Aside0 (kq ≤ k) ∧ Aside0 (Below w.heap.size w wc))
  case first =>
   have H := HC8.out
   clear HC8
   by_cases c9 : a2 = a4
   ·rw [if_pos c9] at H
    have c9b0 : (a2 == a4) = true := beq_iff_eq.mpr c9
    have c9b1 : (a2 != a4) = false := bne_eq_false_iff_eq.mpr c9
    clear c9
    (first | rw [c9b0] | (simp only [uZ, ua]; rw [c9b0]) | skip)
    have H' := uD H
    clear H
    go_wp2
    go_meet
    case rel => exact ⟨_, ((a5 == 0)), (by first | rfl | (simp; done) | (simp [*]; done)), H', ⟨by first | omega | exact Nat.le_refl _⟩, ⟨pb HB⟩⟩
   ·rw [if_neg c9] at H
    have c9b0 : (a2 == a4) = false := beq_eq_false_iff_ne.mpr c9
    have c9b1 : (a2 != a4) = true := bne_iff_ne.mpr c9
    (first | rw [c9b0] | (simp only [uZ, ua]; rw [c9b0]) | skip)
    have H' := uD H
    clear H
    go_wp2
    go_meet
    case rel => exact ⟨_, (true), (by first | rfl | (simp; done) | (simp [*]; done)), H', ⟨by first | omega | exact Nat.le_refl _⟩, ⟨pb HB⟩⟩
  case rest =>
   clear HC8
   try clear c1
   try clear p2
   try clear c3
   try clear c6
   try clear c7
   try clear c7b0
   try clear c9
   try clear c9b0
   try clear c9b1
   obtain ⟨kq, x27_7, rfl, HA, HJ7, HB⟩ := hcut
   cases kq with
   | zero => exact absurd HA.out (by simp [spec_l03Most.j0])
   | succ kj7 =>
    have H := HA.out
    clear HA
    simp only [spec_l03Most.j0] at H
    have HC10 := uD H
    clear H
    go_upto_if 27 with (fail)
    go_cut [13] (fun v13 wc => ∃ (kq : Nat) (x13_9 : Int), v13 = .int .i64 x13_9 ∧ Aside0 (spec_l03Most.j1 kq l0 l1 a2 l3 a4 a5 x13_9 = some r) ∧ Aside0 (kq ≤ kj7) ∧ Aside0 (Below w.heap.size w wc))
    case first =>
     have H := HC10.out
     clear HC10
     by_cases c11 : x27_7 = true
     ·subst c11
      have H1 : ((spec_l03Most.f kj7 l0 l1 (wrap64 (a2 + 1)) l3 a4 a5).bind fun t174 => (spec_l03Most.j1 kj7 l0 l1 a2 l3 a4 a5 t174)) = some r := by rw [if_pos rfl] at H; first | done | exact H
      clear H
      have H := H1
      clear H1
      replace H := Option.bind_eq_some_iff.mp H
      obtain ⟨t174, A120, H⟩ := H
      replace H : (spec_l03Most.j1 kj7 l0 l1 a2 l3 a4 a5 t174) = some r := H
      have A12 := uD A120
      clear A120
      have H' := uD H
      clear H
      go_wp2_with (first | ((with_reducible refine gate_callee (f := 67) rfl ?_); refine goesL_ (some 35) rfl rfl Try.func67 (by kernel_rfl) rfl #[.slice A0 l0.length c0, .slice A1 l1.length c1, .int .i64 (wrap64 (a2 + 1)), .slice A3 l3.length c3, .int .i64 a4, .int .i64 a5] rfl (by (try simp only [List.map_toArray, List.map_cons, List.map_nil]); first | done | rfl | (simp only [List.length_drop, List.length_take]; rfl)) ?_; (with_reducible refine (ih kj7 (by have := HJ7.out; omega) _ _ l0 _ _ l1 (wrap64 (a2 + 1)) _ _ l3 a4 a5 t174 _ ?side1 ?side2 ?side3 ?side4 ?side5 ?side6 A12.out).mono ?_); (case side1 => repeat (first | exact (Kd.C_below HR0.out HB.out) | (with_reducible refine Kd.C_alloc ?_ _) | (with_reducible refine Kd.C_drewN ?_ _) | (with_reducible refine Kd.C_drew ?_))); (case side2 => exact HC0.out); (case side3 => repeat (first | exact (Kd.C_below HR1.out HB.out) | (with_reducible refine Kd.C_alloc ?_ _) | (with_reducible refine Kd.C_drewN ?_ _) | (with_reducible refine Kd.C_drew ?_))); (case side4 => exact HC1.out); (case side5 => repeat (first | exact (Kd.C_below HR3.out HB.out) | (with_reducible refine Kd.C_alloc ?_ _) | (with_reducible refine Kd.C_drewN ?_ _) | (with_reducible refine Kd.C_drew ?_))); (case side6 => exact HC3.out); rintro e w13 ⟨rfl, hb⟩; refine ⟨_, rfl, ?_⟩; replace HB := uD (uO (pb HB) hb); (try clear hb); (try clear hb2); (try clear hk); (try clear hi)))
      go_meet
      case rel => exact ⟨_, (t174), (by first | rfl | (simp; done) | (simp [*]; done)), H', ⟨by have := HJ7.out; first | omega | exact Nat.le_refl _⟩, ⟨pb HB⟩⟩
     ·replace c11 := Bool.eq_false_iff.mpr c11
      subst c11
      have H1 : (spec_l03Most.j1 kj7 l0 l1 a2 l3 a4 a5 (-1)) = some r := by rw [if_neg (show ¬ (false = true) by decide)] at H; first | done | exact H
      clear H
      have H := H1
      clear H1
      have H' := uD H
      clear H
      go_wp2
      go_meet
      case rel => exact ⟨_, ((-1)), (by first | rfl | (simp; done) | (simp [*]; done)), H', ⟨by have := HJ7.out; first | omega | exact Nat.le_refl _⟩, ⟨pb HB⟩⟩
    case rest =>
     clear HC10
     try clear c1
     try clear p2
     try clear c3
     try clear c6
     try clear p6
     try clear c7
     try clear c7b0
     try clear c9
     try clear c9b0
     try clear c9b1
     try clear c11
     try clear p2
     obtain ⟨kq, x13_9, rfl, HA, HJ9, HB⟩ := hcut
     cases kq with
     | zero => exact absurd HA.out (by simp [spec_l03Most.j1])
     | succ kj9 =>
      have H := HA.out
      clear HA
      simp only [spec_l03Most.j1] at H
      have H' := uD H
      clear H
      go_wp2
      go_loopg [13, 14] kj9 (fun kq v13 v14 w' => ∃ (x13_3 : Int) (x14_3 : Int), v13 = .int .i64 x13_3 ∧ v14 = .int .i64 x14_3 ∧ Aside0 (spec_l03Most.l0 kq l0 l1 a2 l3 a4 a5 x13_3 x14_3 = some r) ∧ Aside0 (kq ≤ kj9) ∧ Aside0 (Below w.heap.size w w'))
      case atStart => exact ⟨(x13_9), (0), (by first | rfl | (simp; done) | (simp [*]; done)), (by first | rfl | (simp; done) | (simp [*]; done)), H', ⟨Nat.le_refl _⟩, ⟨pb HB⟩⟩
      case round =>
       clear H'
       try clear c1
       try clear p2
       try clear c3
       try clear c6
       try clear p6
       try clear c7
       try clear c7b0
       try clear c9
       try clear c9b0
       try clear c9b1
       try clear c11
       try clear p2
       try clear p6
       obtain ⟨x13_3, x14_3, rfl, rfl, HA, HK3, HB⟩ := hrel
       cases gk with
       | zero => exact absurd HA.out (by simp [spec_l03Most.l0])
       | succ k3 =>
        have H := HA.out
        clear HA
        simp only [spec_l03Most.l0] at H
        by_cases c14 : x14_3 < (l0.length : Int)
        ·rw [if_pos c14] at H
         have c14b0 : decide (x14_3 < (l0.length : Int)) = true := decide_eq_true c14
         clear c14
         have HC15 := uD H
         clear H
         go_upto_region 9 with (fail)
         go_cut [70] (fun v70 wc => ∃ (kq : Nat) (x70_14 : Bool), v70 = .bool x70_14 ∧ Aside0 (spec_l03Most.j3 kq l0 l1 a2 l3 a4 a5 x13_3 x14_3 x70_14 = some r) ∧ Aside0 (kq ≤ k3) ∧ Aside0 (Below w.heap.size w wc))
         case first =>
          have H := HC15.out
          clear HC15
          replace H := Option.bind_eq_some_iff.mp H
          obtain ⟨t175, A160, H⟩ := H
          replace H : (if t175 = true then (if 0 ≤ x14_3 then ((spec_l03Has.f k3 l3 ((rd_T47 l0 x14_3).f0)).bind fun t177 => (if t177 = true then (spec_l03Most.j3 k3 l0 l1 a2 l3 a4 a5 x13_3 x14_3 true) else (if a2 = a4 then (spec_l03Most.j3 k3 l0 l1 a2 l3 a4 a5 x13_3 x14_3 (a5 != ((rd_T47 l0 x14_3).f0))) else (spec_l03Most.j3 k3 l0 l1 a2 l3 a4 a5 x13_3 x14_3 false)))) else (none)) else (spec_l03Most.j3 k3 l0 l1 a2 l3 a4 a5 x13_3 x14_3 true)) = some r := H
          have A16 := uD A160
          clear A160
          by_cases c17 : t175 = true
          ·subst c17
           have H1 : (if 0 ≤ x14_3 then ((spec_l03Has.f k3 l3 ((rd_T47 l0 x14_3).f0)).bind fun t177 => (if t177 = true then (spec_l03Most.j3 k3 l0 l1 a2 l3 a4 a5 x13_3 x14_3 true) else (if a2 = a4 then (spec_l03Most.j3 k3 l0 l1 a2 l3 a4 a5 x13_3 x14_3 (a5 != ((rd_T47 l0 x14_3).f0))) else (spec_l03Most.j3 k3 l0 l1 a2 l3 a4 a5 x13_3 x14_3 false)))) else (none)) = some r := by rw [if_pos rfl] at H; first | done | exact H
           clear H
           have H := H1
           clear H1
           by_cases c18 : 0 ≤ x14_3
           ·rw [if_pos c18] at H
            have c18b0 : decide (0 ≤ x14_3) = true := decide_eq_true c18
            clear c18
            (first | rw [c18b0] | (simp only [uZ, ua]; rw [c18b0]) | skip)
            replace H := Option.bind_eq_some_iff.mp H
            obtain ⟨t177, A190, H⟩ := H
            replace H : (if t177 = true then (spec_l03Most.j3 k3 l0 l1 a2 l3 a4 a5 x13_3 x14_3 true) else (if a2 = a4 then (spec_l03Most.j3 k3 l0 l1 a2 l3 a4 a5 x13_3 x14_3 (a5 != ((rd_T47 l0 x14_3).f0))) else (spec_l03Most.j3 k3 l0 l1 a2 l3 a4 a5 x13_3 x14_3 false))) = some r := H
            have A19 := uD A190
            clear A190
            by_cases c20 : t177 = true
            ·subst c20
             have H1 : (spec_l03Most.j3 k3 l0 l1 a2 l3 a4 a5 x13_3 x14_3 true) = some r := by rw [if_pos rfl] at H; first | done | exact H
             clear H
             have H := H1
             clear H1
             have H' := uD H
             clear H
             go_wp2_with (first | ((with_reducible refine gate_callee (f := 62) rfl ?_); refine goesL_ (some 46) rfl rfl Try.func62 (by kernel_rfl) rfl #[.slice A0 l0.length c0, .slice A1 l1.length c1, .int .i64 a2, .int .i64 x14_3] rfl (by (try simp only [List.map_toArray, List.map_cons, List.map_nil]); first | done | rfl | (simp only [List.length_drop, List.length_take]; rfl)) ?_; (with_reducible refine (spec_l03Fits.calls k3 _ _ l0 _ _ l1 a2 x14_3 true _ ?side1 ?side2 ?side3 ?side4 A16.out).mono ?_); (case side1 => repeat (first | exact (Kd.C_below HR0.out HB.out) | (with_reducible refine Kd.C_alloc ?_ _) | (with_reducible refine Kd.C_drewN ?_ _) | (with_reducible refine Kd.C_drew ?_))); (case side2 => exact HC0.out); (case side3 => repeat (first | exact (Kd.C_below HR1.out HB.out) | (with_reducible refine Kd.C_alloc ?_ _) | (with_reducible refine Kd.C_drewN ?_ _) | (with_reducible refine Kd.C_drew ?_))); (case side4 => exact HC1.out); rintro e w' ⟨rfl, ⟨nd, rfl⟩⟩; refine ⟨_, rfl, ?_⟩; have p176 : 0 ≤ (x14_3 : Int) := of_decide_eq_true (by first | (with_reducible assumption) | assumption); have q176 : x14_3 < (l0.length : Int) := of_decide_eq_true (by first | (with_reducible assumption) | assumption); obtain ⟨ad176, e176, hx176_0, hx176_1, hx176_2⟩ := at_T47 HR0.out x14_3 p176 q176; cases e176; replace hx176_0 := (HB.out.cell (World.block_lt_of_cell? w _ hx176_0)).trans hx176_0; replace hx176_1 := (HB.out.cell (World.block_lt_of_cell? w _ hx176_1)).trans hx176_1; replace hx176_2 := (HB.out.cell (World.block_lt_of_cell? w _ hx176_2)).trans hx176_2; replace p176 := eq_true p176; replace q176 := eq_true q176) | (go_at_call 63; (with_reducible refine (spec_l03Has.calls k3 _ _ l3 ((rd_T47 l0 x14_3).f0) true _ ?side1 ?side2 A19.out).mono ?_); (case side1 => repeat (first | exact (Kd.C_below HR3.out (pb HB)) | (with_reducible refine Kd.C_alloc ?_ _) | (with_reducible refine Kd.C_drewN ?_ _) | (with_reducible refine Kd.C_drew ?_))); (case side2 => exact HC3.out); rintro e w' ⟨rfl, ⟨nd, rfl⟩⟩))
             go_meet
             case rel => exact ⟨_, (true), (by first | rfl | (simp; done) | (simp [*]; done)), H', ⟨by have := HJ7.out; have := HJ9.out; have := HK3.out; first | omega | exact Nat.le_refl _⟩, ⟨pb HB⟩⟩
            ·replace c20 := Bool.eq_false_iff.mpr c20
             subst c20
             have H1 : (if a2 = a4 then (spec_l03Most.j3 k3 l0 l1 a2 l3 a4 a5 x13_3 x14_3 (a5 != ((rd_T47 l0 x14_3).f0))) else (spec_l03Most.j3 k3 l0 l1 a2 l3 a4 a5 x13_3 x14_3 false)) = some r := by rw [if_neg (show ¬ (false = true) by decide)] at H; first | done | exact H
             clear H
             have H := H1
             clear H1
             by_cases c21 : a2 = a4
             ·rw [if_pos c21] at H
              have c21b0 : (a2 == a4) = true := beq_iff_eq.mpr c21
              have c21b1 : (a2 != a4) = false := bne_eq_false_iff_eq.mpr c21
              clear c21
              have H' := uD H
              clear H
              go_wp2_with (first | ((with_reducible refine gate_callee (f := 62) rfl ?_); refine goesL_ (some 46) rfl rfl Try.func62 (by kernel_rfl) rfl #[.slice A0 l0.length c0, .slice A1 l1.length c1, .int .i64 a2, .int .i64 x14_3] rfl (by (try simp only [List.map_toArray, List.map_cons, List.map_nil]); first | done | rfl | (simp only [List.length_drop, List.length_take]; rfl)) ?_; (with_reducible refine (spec_l03Fits.calls k3 _ _ l0 _ _ l1 a2 x14_3 true _ ?side1 ?side2 ?side3 ?side4 A16.out).mono ?_); (case side1 => repeat (first | exact (Kd.C_below HR0.out HB.out) | (with_reducible refine Kd.C_alloc ?_ _) | (with_reducible refine Kd.C_drewN ?_ _) | (with_reducible refine Kd.C_drew ?_))); (case side2 => exact HC0.out); (case side3 => repeat (first | exact (Kd.C_below HR1.out HB.out) | (with_reducible refine Kd.C_alloc ?_ _) | (with_reducible refine Kd.C_drewN ?_ _) | (with_reducible refine Kd.C_drew ?_))); (case side4 => exact HC1.out); rintro e w' ⟨rfl, ⟨nd, rfl⟩⟩; refine ⟨_, rfl, ?_⟩; have p176 : 0 ≤ (x14_3 : Int) := of_decide_eq_true (by first | (with_reducible assumption) | assumption); have q176 : x14_3 < (l0.length : Int) := of_decide_eq_true (by first | (with_reducible assumption) | assumption); obtain ⟨ad176, e176, hx176_0, hx176_1, hx176_2⟩ := at_T47 HR0.out x14_3 p176 q176; cases e176; replace hx176_0 := (HB.out.cell (World.block_lt_of_cell? w _ hx176_0)).trans hx176_0; replace hx176_1 := (HB.out.cell (World.block_lt_of_cell? w _ hx176_1)).trans hx176_1; replace hx176_2 := (HB.out.cell (World.block_lt_of_cell? w _ hx176_2)).trans hx176_2; replace p176 := eq_true p176; replace q176 := eq_true q176) | (go_at_call 63; (with_reducible refine (spec_l03Has.calls k3 _ _ l3 ((rd_T47 l0 x14_3).f0) false _ ?side1 ?side2 A19.out).mono ?_); (case side1 => repeat (first | exact (Kd.C_below HR3.out (pb HB)) | (with_reducible refine Kd.C_alloc ?_ _) | (with_reducible refine Kd.C_drewN ?_ _) | (with_reducible refine Kd.C_drew ?_))); (case side2 => exact HC3.out); rintro e w' ⟨rfl, ⟨nd, rfl⟩⟩; have p178 : 0 ≤ (x14_3 : Int) := of_decide_eq_true (by first | (with_reducible assumption) | assumption); have q178 : x14_3 < (l0.length : Int) := of_decide_eq_true (by first | (with_reducible assumption) | assumption); obtain ⟨ad178, e178, hx178_0, hx178_1, hx178_2⟩ := at_T47 HR0.out x14_3 p178 q178; obtain rfl : ad176 = ad178 := (by injection e178); replace hx178_0 := (HB.out.cell (World.block_lt_of_cell? w _ hx178_0)).trans hx178_0; replace hx178_1 := (HB.out.cell (World.block_lt_of_cell? w _ hx178_1)).trans hx178_1; replace hx178_2 := (HB.out.cell (World.block_lt_of_cell? w _ hx178_2)).trans hx178_2; replace p178 := eq_true p178; replace q178 := eq_true q178))
              go_meet
              case rel => exact ⟨_, ((a5 != ((rd_T47 l0 x14_3).f0))), (by first | rfl | (simp; done) | (simp [*]; done)), H', ⟨by have := HJ7.out; have := HJ9.out; have := HK3.out; first | omega | exact Nat.le_refl _⟩, ⟨pb HB⟩⟩
             ·rw [if_neg c21] at H
              have c21b0 : (a2 == a4) = false := beq_eq_false_iff_ne.mpr c21
              have c21b1 : (a2 != a4) = true := bne_iff_ne.mpr c21
              have H' := uD H
              clear H
              go_wp2_with (first | ((with_reducible refine gate_callee (f := 62) rfl ?_); refine goesL_ (some 46) rfl rfl Try.func62 (by kernel_rfl) rfl #[.slice A0 l0.length c0, .slice A1 l1.length c1, .int .i64 a2, .int .i64 x14_3] rfl (by (try simp only [List.map_toArray, List.map_cons, List.map_nil]); first | done | rfl | (simp only [List.length_drop, List.length_take]; rfl)) ?_; (with_reducible refine (spec_l03Fits.calls k3 _ _ l0 _ _ l1 a2 x14_3 true _ ?side1 ?side2 ?side3 ?side4 A16.out).mono ?_); (case side1 => repeat (first | exact (Kd.C_below HR0.out HB.out) | (with_reducible refine Kd.C_alloc ?_ _) | (with_reducible refine Kd.C_drewN ?_ _) | (with_reducible refine Kd.C_drew ?_))); (case side2 => exact HC0.out); (case side3 => repeat (first | exact (Kd.C_below HR1.out HB.out) | (with_reducible refine Kd.C_alloc ?_ _) | (with_reducible refine Kd.C_drewN ?_ _) | (with_reducible refine Kd.C_drew ?_))); (case side4 => exact HC1.out); rintro e w' ⟨rfl, ⟨nd, rfl⟩⟩; refine ⟨_, rfl, ?_⟩; have p176 : 0 ≤ (x14_3 : Int) := of_decide_eq_true (by first | (with_reducible assumption) | assumption); have q176 : x14_3 < (l0.length : Int) := of_decide_eq_true (by first | (with_reducible assumption) | assumption); obtain ⟨ad176, e176, hx176_0, hx176_1, hx176_2⟩ := at_T47 HR0.out x14_3 p176 q176; cases e176; replace hx176_0 := (HB.out.cell (World.block_lt_of_cell? w _ hx176_0)).trans hx176_0; replace hx176_1 := (HB.out.cell (World.block_lt_of_cell? w _ hx176_1)).trans hx176_1; replace hx176_2 := (HB.out.cell (World.block_lt_of_cell? w _ hx176_2)).trans hx176_2; replace p176 := eq_true p176; replace q176 := eq_true q176) | (go_at_call 63; (with_reducible refine (spec_l03Has.calls k3 _ _ l3 ((rd_T47 l0 x14_3).f0) false _ ?side1 ?side2 A19.out).mono ?_); (case side1 => repeat (first | exact (Kd.C_below HR3.out (pb HB)) | (with_reducible refine Kd.C_alloc ?_ _) | (with_reducible refine Kd.C_drewN ?_ _) | (with_reducible refine Kd.C_drew ?_))); (case side2 => exact HC3.out); rintro e w' ⟨rfl, ⟨nd, rfl⟩⟩))
              go_meet
              case rel => exact ⟨_, (false), (by first | rfl | (simp; done) | (simp [*]; done)), H', ⟨by have := HJ7.out; have := HJ9.out; have := HK3.out; first | omega | exact Nat.le_refl _⟩, ⟨pb HB⟩⟩
           ·rw [if_neg c18] at H
            exact absurd H (by simp)
          ·replace c17 := Bool.eq_false_iff.mpr c17
           subst c17
           have H1 : (spec_l03Most.j3 k3 l0 l1 a2 l3 a4 a5 x13_3 x14_3 true) = some r := by rw [if_neg (show ¬ (false = true) by decide)] at H; first | done | exact H
           clear H
           have H := H1
           clear H1
           have H' := uD H
           clear H
           go_wp2_with (first | ((with_reducible refine gate_callee (f := 62) rfl ?_); refine goesL_ (some 46) rfl rfl Try.func62 (by kernel_rfl) rfl #[.slice A0 l0.length c0, .slice A1 l1.length c1, .int .i64 a2, .int .i64 x14_3] rfl (by (try simp only [List.map_toArray, List.map_cons, List.map_nil]); first | done | rfl | (simp only [List.length_drop, List.length_take]; rfl)) ?_; (with_reducible refine (spec_l03Fits.calls k3 _ _ l0 _ _ l1 a2 x14_3 false _ ?side1 ?side2 ?side3 ?side4 A16.out).mono ?_); (case side1 => repeat (first | exact (Kd.C_below HR0.out HB.out) | (with_reducible refine Kd.C_alloc ?_ _) | (with_reducible refine Kd.C_drewN ?_ _) | (with_reducible refine Kd.C_drew ?_))); (case side2 => exact HC0.out); (case side3 => repeat (first | exact (Kd.C_below HR1.out HB.out) | (with_reducible refine Kd.C_alloc ?_ _) | (with_reducible refine Kd.C_drewN ?_ _) | (with_reducible refine Kd.C_drew ?_))); (case side4 => exact HC1.out); rintro e w' ⟨rfl, ⟨nd, rfl⟩⟩; refine ⟨_, rfl, ?_⟩))
           go_meet
           case rel => exact ⟨_, (true), (by first | rfl | (simp; done) | (simp [*]; done)), H', ⟨by have := HJ7.out; have := HJ9.out; have := HK3.out; first | omega | exact Nat.le_refl _⟩, ⟨pb HB⟩⟩
         case rest =>
          clear HC15
          try clear c1
          try clear p1
          try clear q1
          try clear hx1
          try clear c2
          try clear p2
          try clear c3
          try clear c6
          try clear p6
          try clear c7
          try clear c7b0
          try clear c9
          try clear c9b0
          try clear c9b1
          try clear c11
          try clear c14
          try clear c14b0
          try clear c17
          try clear p17
          try clear q17
          try clear hx17
          try clear c18
          try clear c18b0
          try clear c20
          try clear c21
          try clear c21b0
          try clear c21b1
          try clear hx176_0
          try clear hx176_1
          try clear hx176_2
          try clear hx178_0
          try clear hx178_1
          try clear hx178_2
          try clear p176
          try clear p178
          try clear p2
          try clear p6
          try clear q176
          try clear q178
          obtain ⟨kq, x70_14, rfl, HA, HJ14, HB⟩ := hcut
          cases kq with
          | zero => exact absurd HA.out (by simp [spec_l03Most.j3])
          | succ kj14 =>
           have H := HA.out
           clear HA
           simp only [spec_l03Most.j3] at H
           by_cases c22 : x70_14 = true
           ·subst c22
            have H1 : (spec_l03Most.l0 kj14 l0 l1 a2 l3 a4 a5 x13_3 (wrap64 (x14_3 + 1))) = some r := by rw [if_pos rfl] at H; first | done | exact H
            clear H
            have H := H1
            clear H1
            have H' := uD H
            clear H
            go_wp2
            go_roundg kj14
            case measure => have := HJ7.out; have := HJ9.out; have := HK3.out; have := HJ14.out; omega
            case rel => exact ⟨(x13_3), (wrap64 (x14_3 + 1)), (by first | rfl | (simp; done) | (simp [*]; done)), (by first | rfl | (simp; done) | (simp [*]; done)), H', ⟨by have := HJ7.out; have := HJ9.out; have := HK3.out; have := HJ14.out; omega⟩, ⟨pb HB⟩⟩
           ·replace c22 := Bool.eq_false_iff.mpr c22
            subst c22
            have H1 : ((some (([] : List Int) : List Int)).bind fun y179 => (if y179.length + l3.length < 17592186044416 then ((some (y179 ++ l3 : List Int)).bind fun y182 => (if 0 ≤ x14_3 then (if x14_3 < (l0.length : Int) then ((some (([(rd_T47 l0 x14_3).f0] : List Int) : List Int)).bind fun y186 => (if y182.length + y186.length < 17592186044416 then ((spec_l03Most.f kj14 l0 l1 (wrap64 (a2 + 1)) (y182 ++ y186) a4 a5).bind fun t192 => (if t192 ≥ 0 then (if (wrap64 (t192 + 1)) > x13_3 then (spec_l03Most.l0 kj14 l0 l1 a2 l3 a4 a5 (wrap64 (t192 + 1)) (wrap64 (x14_3 + 1))) else (spec_l03Most.l0 kj14 l0 l1 a2 l3 a4 a5 x13_3 (wrap64 (x14_3 + 1)))) else (spec_l03Most.l0 kj14 l0 l1 a2 l3 a4 a5 x13_3 (wrap64 (x14_3 + 1))))) else (none))) else (none)) else (none))) else (none))) = some r := by rw [if_neg (show ¬ (false = true) by decide)] at H; first | done | exact H
            clear H
            have H := H1
            clear H1
            obtain ⟨y179, hy179⟩ : ∃ y_ : List Int, y_ = (([] : List Int)) := ⟨_, rfl⟩
            replace H : (if y179.length + l3.length < 17592186044416 then ((some (y179 ++ l3 : List Int)).bind fun y182 => (if 0 ≤ x14_3 then (if x14_3 < (l0.length : Int) then ((some (([(rd_T47 l0 x14_3).f0] : List Int) : List Int)).bind fun y186 => (if y182.length + y186.length < 17592186044416 then ((spec_l03Most.f kj14 l0 l1 (wrap64 (a2 + 1)) (y182 ++ y186) a4 a5).bind fun t192 => (if t192 ≥ 0 then (if (wrap64 (t192 + 1)) > x13_3 then (spec_l03Most.l0 kj14 l0 l1 a2 l3 a4 a5 (wrap64 (t192 + 1)) (wrap64 (x14_3 + 1))) else (spec_l03Most.l0 kj14 l0 l1 a2 l3 a4 a5 x13_3 (wrap64 (x14_3 + 1)))) else (spec_l03Most.l0 kj14 l0 l1 a2 l3 a4 a5 x13_3 (wrap64 (x14_3 + 1))))) else (none))) else (none)) else (none))) else (none)) = some r := by first | (rw [hy179]; with_reducible exact H) | (have H2_ := (Option.bind_some _ _).symm.trans H; rw [hy179]; with_reducible exact H2_) | (have H2_ := (Option.bind_some _ _).symm.trans H; with_reducible exact H2_) | with_reducible exact H | (rw [hy179]; exact H) | exact H
            have Ny179 := uD hy179
            clear hy179
            by_cases c23 : y179.length + l3.length < 17592186044416
            ·rw [if_pos c23] at H
             have LMc23 := uD c23
             clear c23
             obtain ⟨y182, hy182⟩ : ∃ y_ : List Int, y_ = (y179 ++ l3) := ⟨_, rfl⟩
             replace H : (if 0 ≤ x14_3 then (if x14_3 < (l0.length : Int) then ((some (([(rd_T47 l0 x14_3).f0] : List Int) : List Int)).bind fun y186 => (if y182.length + y186.length < 17592186044416 then ((spec_l03Most.f kj14 l0 l1 (wrap64 (a2 + 1)) (y182 ++ y186) a4 a5).bind fun t192 => (if t192 ≥ 0 then (if (wrap64 (t192 + 1)) > x13_3 then (spec_l03Most.l0 kj14 l0 l1 a2 l3 a4 a5 (wrap64 (t192 + 1)) (wrap64 (x14_3 + 1))) else (spec_l03Most.l0 kj14 l0 l1 a2 l3 a4 a5 x13_3 (wrap64 (x14_3 + 1)))) else (spec_l03Most.l0 kj14 l0 l1 a2 l3 a4 a5 x13_3 (wrap64 (x14_3 + 1))))) else (none))) else (none)) else (none)) = some r := by first | (rw [hy182]; with_reducible exact H) | (have H2_ := (Option.bind_some _ _).symm.trans H; rw [hy182]; with_reducible exact H2_) | (have H2_ := (Option.bind_some _ _).symm.trans H; with_reducible exact H2_) | with_reducible exact H | (rw [hy182]; exact H) | exact H
             have Ny182 := uD hy182
             clear hy182
             by_cases c24 : 0 ≤ x14_3
             ·rw [if_pos c24] at H
              have c24b0 : decide (0 ≤ x14_3) = true := decide_eq_true c24
              clear c24
              by_cases c25 : x14_3 < (l0.length : Int)
              ·rw [if_pos c25] at H
               have c25b0 : decide (x14_3 < (l0.length : Int)) = true := decide_eq_true c25
               clear c25
               (try simp [c25b0] at c14b0)
               obtain ⟨y186, hy186⟩ : ∃ y_ : List Int, y_ = (([(rd_T47 l0 x14_3).f0] : List Int)) := ⟨_, rfl⟩
               replace H : (if y182.length + y186.length < 17592186044416 then ((spec_l03Most.f kj14 l0 l1 (wrap64 (a2 + 1)) (y182 ++ y186) a4 a5).bind fun t192 => (if t192 ≥ 0 then (if (wrap64 (t192 + 1)) > x13_3 then (spec_l03Most.l0 kj14 l0 l1 a2 l3 a4 a5 (wrap64 (t192 + 1)) (wrap64 (x14_3 + 1))) else (spec_l03Most.l0 kj14 l0 l1 a2 l3 a4 a5 x13_3 (wrap64 (x14_3 + 1)))) else (spec_l03Most.l0 kj14 l0 l1 a2 l3 a4 a5 x13_3 (wrap64 (x14_3 + 1))))) else (none)) = some r := by first | (rw [hy186]; with_reducible exact H) | (have H2_ := (Option.bind_some _ _).symm.trans H; rw [hy186]; with_reducible exact H2_) | (have H2_ := (Option.bind_some _ _).symm.trans H; with_reducible exact H2_) | with_reducible exact H | (rw [hy186]; exact H) | exact H
               have Ny186 := uD hy186
               clear hy186
               by_cases c26 : y182.length + y186.length < 17592186044416
               ·rw [if_pos c26] at H
                have LMc26 := uD c26
                clear c26
                obtain ⟨y189, hy189⟩ : ∃ y_ : List Int, y_ = (y182 ++ y186) := ⟨_, rfl⟩
                replace H : ((spec_l03Most.f kj14 l0 l1 (wrap64 (a2 + 1)) y189 a4 a5).bind fun t192 => (if t192 ≥ 0 then (if (wrap64 (t192 + 1)) > x13_3 then (spec_l03Most.l0 kj14 l0 l1 a2 l3 a4 a5 (wrap64 (t192 + 1)) (wrap64 (x14_3 + 1))) else (spec_l03Most.l0 kj14 l0 l1 a2 l3 a4 a5 x13_3 (wrap64 (x14_3 + 1)))) else (spec_l03Most.l0 kj14 l0 l1 a2 l3 a4 a5 x13_3 (wrap64 (x14_3 + 1))))) = some r := by first | (rw [hy189]; with_reducible exact H) | (have H2_ := (Option.bind_some _ _).symm.trans H; rw [hy189]; with_reducible exact H2_) | (have H2_ := (Option.bind_some _ _).symm.trans H; with_reducible exact H2_) | with_reducible exact H | (rw [hy189]; exact H) | exact H
                have Ny189 := uD hy189
                clear hy189
                replace H := Option.bind_eq_some_iff.mp H
                obtain ⟨t192, A270, H⟩ := H
                replace H : (if t192 ≥ 0 then (if (wrap64 (t192 + 1)) > x13_3 then (spec_l03Most.l0 kj14 l0 l1 a2 l3 a4 a5 (wrap64 (t192 + 1)) (wrap64 (x14_3 + 1))) else (spec_l03Most.l0 kj14 l0 l1 a2 l3 a4 a5 x13_3 (wrap64 (x14_3 + 1)))) else (spec_l03Most.l0 kj14 l0 l1 a2 l3 a4 a5 x13_3 (wrap64 (x14_3 + 1)))) = some r := H
                have A27 := uD A270
                clear A270
                by_cases c28 : t192 ≥ 0
                ·rw [if_pos c28] at H
                 have c28b0 : decide (0 ≤ t192) = true := decide_eq_true c28
                 clear c28
                 by_cases c29 : (wrap64 (t192 + 1)) > x13_3
                 ·rw [if_pos c29] at H
                  have c29b0 : decide (x13_3 < (wrap64 (t192 + 1))) = true := decide_eq_true c29
                  clear c29
                  have H' := uD H
                  clear H
                  try go_wp2
                  replace HB := uD (uK HB.out)
                  have p185 : 0 ≤ (x14_3 : Int) := of_decide_eq_true (by first | (with_reducible assumption) | assumption)
                  have q185 : x14_3 < (l0.length : Int) := of_decide_eq_true (by first | (with_reducible assumption) | assumption)
                  obtain ⟨ad185, e185, hx185_0, hx185_1, hx185_2⟩ := at_T47 HR0.out x14_3 p185 q185
                  have hw185_2 := hx185_2
                  have hw185_1 := hx185_1
                  have hw185_0 := hx185_0
                  cases e185
                  replace hx185_0 := (HB.out.cell (World.block_lt_of_cell? w _ hx185_0)).trans hx185_0
                  replace hx185_1 := (HB.out.cell (World.block_lt_of_cell? w _ hx185_1)).trans hx185_1
                  replace hx185_2 := (HB.out.cell (World.block_lt_of_cell? w _ hx185_2)).trans hx185_2
                  replace p185 := eq_true p185
                  replace q185 := eq_true q185
                  refine start_ (n := 11) (S := fun w' => w'.cell? (ad185.add ((x14_3).toNat * 3)) = some (.int .i64 ((rd_T47 l0 x14_3).f0)) ∧ w'.cell? ⟨(ad185.add ((x14_3).toNat * 3)).block, (ad185.add ((x14_3).toNat * 3)).off + 1, none⟩ = some (.int .i64 ((rd_T47 l0 x14_3).f1)) ∧ w'.cell? ⟨(ad185.add ((x14_3).toNat * 3)).block, (ad185.add ((x14_3).toNat * 3)).off + 2, none⟩ = some (.int .i64 ((rd_T47 l0 x14_3).f2))) (ds := []) #[F,F,F,F,F,F,F,F,F,F,F] (by kernel_rfl) rfl rfl ⟨((HB.out.cell (World.block_lt_of_cell? w _ hw185_0)).trans hw185_0), ((HB.out.cell (World.block_lt_of_cell? w _ hw185_1)).trans hw185_1), ((HB.out.cell (World.block_lt_of_cell? w _ hw185_2)).trans hw185_2)⟩ (fun hHeld => ?_); refine with_tabW spec_l03Most.tab10 spec_l03Most.bits10 (fun HT_ HW_ => ?_)
                  generalize wc.drew = w30 at HB hx185_0 hx185_1 hx185_2 hHeld ⊢
                  refine pu 1 (some 72) #[F,T,F,F,F,F,F,F,F,F,F] HT_ ?_
                  refine pu 3 (some 74) #[F,T,F,T,F,F,F,F,F,F,F] HT_ ?_
                  refine pu 4 (some 75) #[F,T,F,T,T,F,F,F,F,F,F] HT_ ?_
                  refine pu 5 (some 76) #[F,T,F,T,T,T,F,F,F,F,F] HT_ ?_
                  refine pu 6 (some 77) #[F,T,F,T,T,T,T,F,F,F,F] HT_ ?_
                  refine take_ (i := 7) (N := some 78) (v := ?_) (a' := ?_) #[F,T,F,T,T,T,T,T,F,F,F] rfl rfl (take_ofW HT_.out HW_.out (by kernel_rfl)) (fun _ _ _ h => h) (Or.inl ⟨by rfl, ?_⟩) hHeld ?_ ?_
                  rotate_left;(rintro w' ⟨s0, s1, s2⟩;go_simp;with_reducible rfl);rotate_left;(simp only [uc,uA,uB,uC,uZ,ua];rfl)
                  refine join_ (σ := Value × Value × Value) 2 #[T,T,T,T,T,T,T,T,T,F,F] (fun s_ => [(71, s_.1), (73, s_.2.1), (79, s_.2.2)]) (fun s_ w' => (w'.cell? (ad185.add ((x14_3).toNat * 3)) = some (.int .i64 ((rd_T47 l0 x14_3).f0)) ∧ w'.cell? ⟨(ad185.add ((x14_3).toNat * 3)).block, (ad185.add ((x14_3).toNat * 3)).off + 1, none⟩ = some (.int .i64 ((rd_T47 l0 x14_3).f1)) ∧ w'.cell? ⟨(ad185.add ((x14_3).toNat * 3)).block, (ad185.add ((x14_3).toNat * 3)).off + 2, none⟩ = some (.int .i64 ((rd_T47 l0 x14_3).f2))) ∧ (Kd.R (Kd.int .i64) 3 w' w.heap.size (fun k_ => some k_ ≠ (s_.2.2 : Value).ownBlock) s_.2.1 y182) ∧ (Kd.R (Kd.int .i64) 3 w' w.heap.size (fun k_ => some k_ ≠ (s_.2.1 : Value).ownBlock) s_.2.2 y186) ∧ (Below w.heap.size w w')) ?_ ?_
                  rotate_left
                  ·intro hCont
                   refine two_ (i := 0) (j := 8) (Ni := some 71) (Nj := some 79) #[T,T,F,T,T,T,T,T,F,F,F] #[F,T,F,T,T,T,T,T,T,F,F] rfl rfl rfl rfl (two_of HT_.out (by kernel_rfl)) (by decide) (by decide) (fun K hK => ?_) (fun K hK => ?_)
                   ·skip
                    refine Kd.R_lit_step (Kd.int .i64) _ 3 ?hg (N := 71) ?hd (xs := ([] : List Int)) (inner := []) (ok := fun _ => True) (okp := fun _ => True) ?hr ?hp (fun _ hk => hk) trivial (Below.refl _ _) (Nat.le_refl _) (by simp) ?_; (case hd => rfl); (case hg => rfl); (case hr => first | (go_simp; done) | (go_simp; rfl)); (case hp => exact (Reps.none _ _))
                    intro v180 w31 ho32 hb hg_ hnew_
                    clear hg_ hnew_
                    (first | rw [← Ny179.out] at ho32 | (simp only [Int.reduceToNat] at ho32; rw [← Ny179.out] at ho32))
                    have HO181 := uD (Kd.R_lower ho32 (uN (pb HB)))
                    replace HB := uD (uO (pb HB) hb)
                    clear hb ho32
                    refine hK.out _ _ ⟨((HB.out.cell (World.block_lt_of_cell? w _ hw185_0)).trans hw185_0), ((HB.out.cell (World.block_lt_of_cell? w _ hw185_1)).trans hw185_1), ((HB.out.cell (World.block_lt_of_cell? w _ hw185_2)).trans hw185_2)⟩ (fun hHeld => ?_)
                    clear hK K
                    refine norm_ (a' := ?_) ?_ ?_
                    rotate_left
                    ·show uc _ (some 71) _ = _
                     simp only [uc, uA, uB, uC, uZ, ua]
                     rfl
                    refine two_ (i := 2) (j := 8) (Ni := some 73) (Nj := some 79) #[T,T,T,T,T,T,T,T,F,F,F] #[T,T,F,T,T,T,T,T,T,F,F] rfl rfl rfl rfl (two_of HT_.out (by kernel_rfl)) (by decide) (by decide) (fun K hK => ?_) (fun K hK => ?_)
                    ·skip
                     refine Kd.R_append_rows_step (Kd.int .i64) (w0 := w) w.heap.size (by rfl) (.tmp 71) (.tmp 72) 36 3 (.int .i64 0) 8 rfl Try.underlying36 info3 rfl (by decide) (by omega) v180 y179 l3 _ _ _ (fun _ => True) (fun _ => False) rfl rfl ?aO ?aR (fun _ _ h => h) (fun _ h => h.elim) ?aF ?aB ?aS ?aL ?_
                     (case aR => repeat (first | exact (Kd.C_below HR3.out HB.out) | (with_reducible refine Kd.C_alloc ?_ _) | (with_reducible refine Kd.C_drewN ?_ _) | (with_reducible refine Kd.C_drew ?_)))
                     (case aB => exact (pb HB))
                     (case aF => exact (fun _ _ => trivial))
                     (case aO => exact (pr HO181))
                     (case aS => exact (uN (pb HB)))
                     (case aL => have := LMc23.out; omega)
                     intro v183 w33 ho hb hg hat
                     rw [← Ny182.out] at ho
                     replace HB := uD (hb)
                     have HO184 := uD (ho)
                     clear HO181
                     clear ho hb hg hat
                     refine hK.out _ _ ⟨((HB.out.cell (World.block_lt_of_cell? w _ hw185_0)).trans hw185_0), ((HB.out.cell (World.block_lt_of_cell? w _ hw185_1)).trans hw185_1), ((HB.out.cell (World.block_lt_of_cell? w _ hw185_2)).trans hw185_2)⟩ (fun hHeld => ?_)
                     clear hK K
                     refine norm_ (a' := ?_) ?_ ?_
                     rotate_left
                     ·show uc _ (some 73) _ = _
                      simp only [uc, uA, uB, uC, uZ, ua]
                      rfl
                     refine one_ (i := 8) (N := some 79) #[T,T,T,T,T,T,T,T,T,F,F] rfl rfl (one_of HT_.out (by kernel_rfl)) (by decide) (fun K hK => ?_)
                     refine Kd.R_lit_step (Kd.int .i64) _ 3 ?hg (N := 79) ?hd (xs := ([(rd_T47 l0 x14_3).f0] : List Int)) (inner := [.int .i64 ((rd_T47 l0 x14_3).f0)]) (ok := fun _ => True) (okp := fun _ => True) ?hr ?hp (fun _ hk => hk) trivial (Below.refl _ _) (Nat.le_refl _) (by simp) ?_; (case hd => rfl); (case hg => rfl); (case hr => first | (go_simp; done) | (go_simp; rfl)); (case hp => exact (Reps.one (show Kd.M (Kd.int .i64) _ _ _ ((rd_T47 l0 x14_3).f0) [.int .i64 ((rd_T47 l0 x14_3).f0)] from rfl) (Reps.none _ _)))
                     intro v187 w34 ho35 hb hg_ hnew_
                     clear hg_ hnew_
                     (first | rw [← Ny186.out] at ho35 | (simp only [Int.reduceToNat] at ho35; rw [← Ny186.out] at ho35))
                     have HO188 := uD (Kd.R_lower (Kd.R_new' ho35 (Kd.R_lt (pr HO184))) (uN (pb HB)))
                     replace HO184 := uD (Kd.R_elder' (pr HO184) (Kd.R_base ho35) hb)
                     replace HB := uD (uO (pb HB) hb)
                     clear hb ho35
                     refine hK.out _ _ ⟨((HB.out.cell (World.block_lt_of_cell? w _ hw185_0)).trans hw185_0), ((HB.out.cell (World.block_lt_of_cell? w _ hw185_1)).trans hw185_1), ((HB.out.cell (World.block_lt_of_cell? w _ hw185_2)).trans hw185_2)⟩ (fun hHeld => ?_)
                     clear hK K
                     refine norm_ (a' := ?_) ?_ ?_
                     rotate_left
                     ·show uc _ (some 79) _ = _
                      simp only [uc, uA, uB, uC, uZ, ua]
                      rfl
                     exact norm_ (by simp only [putAll, uc, uA, uB, uC]) (hCont (v180, v183, v187) _ ⟨hHeld, (by (with_reducible repeat (first | apply uU | apply uS | apply uT)); exact uX HO184.out (fun _ hk => hk.2)), (by (with_reducible repeat (first | apply uU | apply uS | apply uT)); exact uX HO188.out (fun _ hk => hk.2)), (pb HB)⟩)
                    ·skip
                     refine Kd.R_lit_step (Kd.int .i64) _ 3 ?hg (N := 79) ?hd (xs := ([(rd_T47 l0 x14_3).f0] : List Int)) (inner := [.int .i64 ((rd_T47 l0 x14_3).f0)]) (ok := fun _ => True) (okp := fun _ => True) ?hr ?hp (fun _ hk => hk) trivial (Below.refl _ _) (Nat.le_refl _) (by simp) ?_; (case hd => rfl); (case hg => rfl); (case hr => first | (go_simp; done) | (go_simp; rfl)); (case hp => exact (Reps.one (show Kd.M (Kd.int .i64) _ _ _ ((rd_T47 l0 x14_3).f0) [.int .i64 ((rd_T47 l0 x14_3).f0)] from rfl) (Reps.none _ _)))
                     intro v187 w33 ho34 hb hg_ hnew_
                     clear hg_ hnew_
                     (first | rw [← Ny186.out] at ho34 | (simp only [Int.reduceToNat] at ho34; rw [← Ny186.out] at ho34))
                     have HO188 := uD (Kd.R_lower (Kd.R_new' ho34 (Kd.R_lt (pr HO181))) (uN (pb HB)))
                     replace HO181 := uD (Kd.R_elder' (pr HO181) (Kd.R_base ho34) hb)
                     replace HB := uD (uO (pb HB) hb)
                     clear hb ho34
                     refine hK.out _ _ ⟨((HB.out.cell (World.block_lt_of_cell? w _ hw185_0)).trans hw185_0), ((HB.out.cell (World.block_lt_of_cell? w _ hw185_1)).trans hw185_1), ((HB.out.cell (World.block_lt_of_cell? w _ hw185_2)).trans hw185_2)⟩ (fun hHeld => ?_)
                     clear hK K
                     refine norm_ (a' := ?_) ?_ ?_
                     rotate_left
                     ·show uc _ (some 79) _ = _
                      simp only [uc, uA, uB, uC, uZ, ua]
                      rfl
                     refine one_ (i := 2) (N := some 73) #[T,T,T,T,T,T,T,T,T,F,F] rfl rfl (one_of HT_.out (by kernel_rfl)) (by decide) (fun K hK => ?_)
                     refine Kd.R_append_rows_step (Kd.int .i64) (w0 := w) w.heap.size (by rfl) (.tmp 71) (.tmp 72) 36 3 (.int .i64 0) 8 rfl Try.underlying36 info3 rfl (by decide) (by omega) v180 y179 l3 _ _ _ (fun k_ => some k_ ≠ (v187 : Value).ownBlock) (fun _ => False) rfl rfl ?aO ?aR (fun _ _ h => h) (fun _ h => h.elim) ?aF ?aB ?aS ?aL ?_
                     (case aR => repeat (first | exact (Kd.C_below HR3.out HB.out) | (with_reducible refine Kd.C_alloc ?_ _) | (with_reducible refine Kd.C_drewN ?_ _) | (with_reducible refine Kd.C_drew ?_)))
                     (case aB => exact (pb HB))
                     (case aF => exact (fun k_ hk => Kd.fresh' (Kd.R_lt (pr HO188)) k_ hk))
                     (case aO => exact (by (with_reducible repeat (first | apply uU | apply uS | apply uT)); exact uX HO181.out (fun _ hk => hk.2)))
                     (case aS => exact (uN (pb HB)))
                     (case aL => have := LMc23.out; omega)
                     intro v183 w35 ho hb hg hat
                     rw [← Ny182.out] at ho
                     replace HO188 := uD (Kd.R_after (ok := (fun _ => True)) (pr HO188) hg hat)
                     replace HB := uD (hb)
                     have HO184 := uD (ho)
                     clear HO181
                     clear ho hb hg hat
                     refine hK.out _ _ ⟨((HB.out.cell (World.block_lt_of_cell? w _ hw185_0)).trans hw185_0), ((HB.out.cell (World.block_lt_of_cell? w _ hw185_1)).trans hw185_1), ((HB.out.cell (World.block_lt_of_cell? w _ hw185_2)).trans hw185_2)⟩ (fun hHeld => ?_)
                     clear hK K
                     refine norm_ (a' := ?_) ?_ ?_
                     rotate_left
                     ·show uc _ (some 73) _ = _
                      simp only [uc, uA, uB, uC, uZ, ua]
                      rfl
                     exact norm_ (by simp only [putAll, uc, uA, uB, uC]) (hCont (v180, v183, v187) _ ⟨hHeld, (pr HO184), (by (with_reducible repeat (first | apply uU | apply uS | apply uT)); exact uX HO188.out (fun _ hk => hk.2)), (pb HB)⟩)
                   ·skip
                    refine Kd.R_lit_step (Kd.int .i64) _ 3 ?hg (N := 79) ?hd (xs := ([(rd_T47 l0 x14_3).f0] : List Int)) (inner := [.int .i64 ((rd_T47 l0 x14_3).f0)]) (ok := fun _ => True) (okp := fun _ => True) ?hr ?hp (fun _ hk => hk) trivial (Below.refl _ _) (Nat.le_refl _) (by simp) ?_; (case hd => rfl); (case hg => rfl); (case hr => first | (go_simp; done) | (go_simp; rfl)); (case hp => exact (Reps.one (show Kd.M (Kd.int .i64) _ _ _ ((rd_T47 l0 x14_3).f0) [.int .i64 ((rd_T47 l0 x14_3).f0)] from rfl) (Reps.none _ _)))
                    intro v187 w31 ho32 hb hg_ hnew_
                    clear hg_ hnew_
                    (first | rw [← Ny186.out] at ho32 | (simp only [Int.reduceToNat] at ho32; rw [← Ny186.out] at ho32))
                    have HO188 := uD (Kd.R_lower ho32 (uN (pb HB)))
                    replace HB := uD (uO (pb HB) hb)
                    clear hb ho32
                    refine hK.out _ _ ⟨((HB.out.cell (World.block_lt_of_cell? w _ hw185_0)).trans hw185_0), ((HB.out.cell (World.block_lt_of_cell? w _ hw185_1)).trans hw185_1), ((HB.out.cell (World.block_lt_of_cell? w _ hw185_2)).trans hw185_2)⟩ (fun hHeld => ?_)
                    clear hK K
                    refine norm_ (a' := ?_) ?_ ?_
                    rotate_left
                    ·show uc _ (some 79) _ = _
                     simp only [uc, uA, uB, uC, uZ, ua]
                     rfl
                    refine one_ (i := 0) (N := some 71) #[T,T,F,T,T,T,T,T,T,F,F] rfl rfl (one_of HT_.out (by kernel_rfl)) (by decide) (fun K hK => ?_)
                    refine Kd.R_lit_step (Kd.int .i64) _ 3 ?hg (N := 71) ?hd (xs := ([] : List Int)) (inner := []) (ok := fun _ => True) (okp := fun _ => True) ?hr ?hp (fun _ hk => hk) trivial (Below.refl _ _) (Nat.le_refl _) (by simp) ?_; (case hd => rfl); (case hg => rfl); (case hr => first | (go_simp; done) | (go_simp; rfl)); (case hp => exact (Reps.none _ _))
                    intro v180 w33 ho34 hb hg_ hnew_
                    clear hg_ hnew_
                    (first | rw [← Ny179.out] at ho34 | (simp only [Int.reduceToNat] at ho34; rw [← Ny179.out] at ho34))
                    have HO181 := uD (Kd.R_lower (Kd.R_new' ho34 (Kd.R_lt (pr HO188))) (uN (pb HB)))
                    replace HO188 := uD (Kd.R_elder' (pr HO188) (Kd.R_base ho34) hb)
                    replace HB := uD (uO (pb HB) hb)
                    clear hb ho34
                    refine hK.out _ _ ⟨((HB.out.cell (World.block_lt_of_cell? w _ hw185_0)).trans hw185_0), ((HB.out.cell (World.block_lt_of_cell? w _ hw185_1)).trans hw185_1), ((HB.out.cell (World.block_lt_of_cell? w _ hw185_2)).trans hw185_2)⟩ (fun hHeld => ?_)
                    clear hK K
                    refine norm_ (a' := ?_) ?_ ?_
                    rotate_left
                    ·show uc _ (some 71) _ = _
                     simp only [uc, uA, uB, uC, uZ, ua]
                     rfl
                    refine one_ (i := 2) (N := some 73) #[T,T,T,T,T,T,T,T,T,F,F] rfl rfl (one_of HT_.out (by kernel_rfl)) (by decide) (fun K hK => ?_)
                    refine Kd.R_append_rows_step (Kd.int .i64) (w0 := w) w.heap.size (by rfl) (.tmp 71) (.tmp 72) 36 3 (.int .i64 0) 8 rfl Try.underlying36 info3 rfl (by decide) (by omega) v180 y179 l3 _ _ _ (fun k_ => some k_ ≠ (v187 : Value).ownBlock) (fun _ => False) rfl rfl ?aO ?aR (fun _ _ h => h) (fun _ h => h.elim) ?aF ?aB ?aS ?aL ?_
                    (case aR => repeat (first | exact (Kd.C_below HR3.out HB.out) | (with_reducible refine Kd.C_alloc ?_ _) | (with_reducible refine Kd.C_drewN ?_ _) | (with_reducible refine Kd.C_drew ?_)))
                    (case aB => exact (pb HB))
                    (case aF => exact (fun k_ hk => Kd.fresh' (Kd.R_lt (pr HO188)) k_ hk))
                    (case aO => exact (by (with_reducible repeat (first | apply uU | apply uS | apply uT)); exact uX HO181.out (fun _ hk => hk.2)))
                    (case aS => exact (uN (pb HB)))
                    (case aL => have := LMc23.out; omega)
                    intro v183 w35 ho hb hg hat
                    rw [← Ny182.out] at ho
                    replace HO188 := uD (Kd.R_after (ok := (fun _ => True)) (pr HO188) hg hat)
                    replace HB := uD (hb)
                    have HO184 := uD (ho)
                    clear HO181
                    clear ho hb hg hat
                    refine hK.out _ _ ⟨((HB.out.cell (World.block_lt_of_cell? w _ hw185_0)).trans hw185_0), ((HB.out.cell (World.block_lt_of_cell? w _ hw185_1)).trans hw185_1), ((HB.out.cell (World.block_lt_of_cell? w _ hw185_2)).trans hw185_2)⟩ (fun hHeld => ?_)
                    clear hK K
                    refine norm_ (a' := ?_) ?_ ?_
                    rotate_left
                    ·show uc _ (some 73) _ = _
                     simp only [uc, uA, uB, uC, uZ, ua]
                     rfl
                    exact norm_ (by simp only [putAll, uc, uA, uB, uC]) (hCont (v180, v183, v187) _ ⟨hHeld, (pr HO184), (by (with_reducible repeat (first | apply uU | apply uS | apply uT)); exact uX HO188.out (fun _ hk => hk.2)), (pb HB)⟩)
                  rintro ⟨v180, v183, v187⟩ w36 ⟨hS_, h0_, h1_, h2_⟩
                  have n0_ : Aside0 (Kd.R (Kd.int .i64) 3 w36 w.heap.size (fun k_ => some k_ ≠ (v187 : Value).ownBlock) v183 y182) := ⟨h0_⟩
                  have n1_ : Aside0 (Kd.R (Kd.int .i64) 3 w36 w.heap.size (fun k_ => some k_ ≠ (v183 : Value).ownBlock) v187 y186) := ⟨h1_⟩
                  have n2_ : Aside0 (Below w.heap.size w w36) := ⟨h2_⟩
                  clear HB
                  clear h0_ h1_ h2_
                  have HO184 := n0_
                  have HO188 := n1_
                  have HB := n2_
                  clear n0_ n1_ n2_
                  have hHeld : w36.cell? (ad185.add ((x14_3).toNat * 3)) = some (.int .i64 ((rd_T47 l0 x14_3).f0)) ∧ w36.cell? ⟨(ad185.add ((x14_3).toNat * 3)).block, (ad185.add ((x14_3).toNat * 3)).off + 1, none⟩ = some (.int .i64 ((rd_T47 l0 x14_3).f1)) ∧ w36.cell? ⟨(ad185.add ((x14_3).toNat * 3)).block, (ad185.add ((x14_3).toNat * 3)).off + 2, none⟩ = some (.int .i64 ((rd_T47 l0 x14_3).f2)) := hS_
                  obtain ⟨Ao38, co38, eo38⟩ := Kd.R_slice HO188.out
                  (first | subst eo38 | (injection eo38 with f1_ f2_ f3_; have f4_ := f1_.symm; have f5_ := f3_.symm; clear f1_ f2_ f3_; subst f4_; subst f5_))
                  refine norm_ (a' := ?_) ?_ ?_
                  rotate_left
                  ·simp only [putAll, uc, uA, uB, uC]
                   rfl
                  refine one_ (i := 9) (N := some 80) #[T,T,T,T,T,T,T,T,T,T,F] rfl rfl (one_of HT_.out (by kernel_rfl)) (by decide) (fun K hK => ?_)
                  refine Kd.R_append_rows_step (Kd.int .i64) (w0 := w) w.heap.size (by rfl) (.tmp 73) (.tmp 79) 36 3 (.int .i64 0) 8 rfl Try.underlying36 info3 rfl (by decide) (by omega) v183 y182 y186 _ _ _ (fun k_ => some k_ ≠ (.slice Ao38 y186.length co38 : Value).ownBlock) (fun _ => False) rfl rfl ?aO ?aR (fun _ _ h => h) (fun _ h => h.elim) ?aF ?aB ?aS ?aL ?_
                  (case aR => repeat (first | exact (Kd.R_reads' HO188.out).2.2 | (with_reducible refine Kd.C_alloc ?_ _) | (with_reducible refine Kd.C_drewN ?_ _) | (with_reducible refine Kd.C_drew ?_)))
                  (case aB => exact (pb HB))
                  (case aF => exact (fun k_ hk => Kd.fresh' (Kd.R_lt (pr HO188)) k_ hk))
                  (case aO => exact (pr HO184))
                  (case aS => exact (uN (pb HB)))
                  (case aL => have := LMc26.out; omega)
                  intro v190 w37 ho hb hg hat
                  rw [← Ny189.out] at ho
                  replace HO188 := uD (Kd.R_after (ok := (fun _ => True)) (by (with_reducible repeat (first | apply uU | apply uS | apply uT)); exact uX HO188.out (fun _ hk => ⟨trivial, hk⟩)) hg hat)
                  replace HB := uD (hb)
                  have HO191 := uD (ho)
                  clear HO184
                  clear ho hb hg hat
                  refine hK.out _ _ ⟨((HB.out.cell (World.block_lt_of_cell? w _ hw185_0)).trans hw185_0), ((HB.out.cell (World.block_lt_of_cell? w _ hw185_1)).trans hw185_1), ((HB.out.cell (World.block_lt_of_cell? w _ hw185_2)).trans hw185_2)⟩ (fun hHeld => ?_)
                  clear hK K
                  refine norm_ (a' := ?_) ?_ ?_
                  rotate_left
                  ·show uc _ (some 80) _ = _
                   simp only [uc, uA, uB, uC, uZ, ua]
                   rfl
                  refine pu 10 (some 15) #[T,T,T,T,T,T,T,T,T,T,T] HT_ ?_
                  refine done_ (done_of HT_.out (by kernel_rfl)) ?_
                  obtain ⟨Ao39, co39, eo39⟩ := Kd.R_slice HO191.out
                  subst eo39
                  try go_wp2_with (first | ((with_reducible refine gate_callee (f := 67) rfl ?_); refine goesL_ (some 88) rfl rfl Try.func67 (by kernel_rfl) rfl #[.slice (some ad185) l0.length c0, .slice A1 l1.length c1, .int .i64 (wrap64 (a2 + 1)), .slice Ao39 y189.length co39, .int .i64 a4, .int .i64 a5] rfl (by (try simp only [List.map_toArray, List.map_cons, List.map_nil]); first | done | rfl | (simp only [List.length_drop, List.length_take]; rfl)) ?_; (with_reducible refine (ih kj14 (by have := HJ7.out; have := HJ9.out; have := HK3.out; have := HJ14.out; omega) _ _ l0 _ _ l1 (wrap64 (a2 + 1)) _ _ y189 a4 a5 t192 _ ?side1 ?side2 ?side3 ?side4 ?side5 ?side6 A27.out).mono ?_); (case side1 => repeat (first | exact (Kd.C_below HR0.out HB.out) | (with_reducible refine Kd.C_alloc ?_ _) | (with_reducible refine Kd.C_drewN ?_ _) | (with_reducible refine Kd.C_drew ?_))); (case side2 => exact HC0.out); (case side3 => repeat (first | exact (Kd.C_below HR1.out HB.out) | (with_reducible refine Kd.C_alloc ?_ _) | (with_reducible refine Kd.C_drewN ?_ _) | (with_reducible refine Kd.C_drew ?_))); (case side4 => exact HC1.out); (case side5 => repeat (first | exact (Kd.R_reads' HO191.out).2.2 | (with_reducible refine Kd.C_alloc ?_ _) | (with_reducible refine Kd.C_drewN ?_ _) | (with_reducible refine Kd.C_drew ?_))); (case side6 => exact (Kd.R_reads' HO191.out).2.1); rintro e w40 ⟨rfl, hb⟩; refine ⟨_, rfl, ?_⟩; replace HO188 := uD (Kd.R_below (pr HO188) hb); replace HO191 := uD (Kd.R_below (pr HO191) hb); replace HB := uD (uO (pb HB) hb); (try clear hb); (try clear hb2); (try clear hk); (try clear hi)))
                  go_roundg kj14
                  case measure => have := HJ7.out; have := HJ9.out; have := HK3.out; have := HJ14.out; omega
                  case rel => exact ⟨(wrap64 (t192 + 1)), (wrap64 (x14_3 + 1)), (by first | rfl | (simp; done) | (simp [*]; done)), (by first | rfl | (simp; done) | (simp [*]; done)), H', ⟨by have := HJ7.out; have := HJ9.out; have := HK3.out; have := HJ14.out; omega⟩, ⟨pb HB⟩⟩
                 ·rw [if_neg c29] at H
                  have c29b0 : decide (x13_3 < (wrap64 (t192 + 1))) = false := decide_eq_false c29
                  clear c29
                  have H' := uD H
                  clear H
                  try go_wp2
                  replace HB := uD (uK HB.out)
                  have p185 : 0 ≤ (x14_3 : Int) := of_decide_eq_true (by first | (with_reducible assumption) | assumption)
                  have q185 : x14_3 < (l0.length : Int) := of_decide_eq_true (by first | (with_reducible assumption) | assumption)
                  obtain ⟨ad185, e185, hx185_0, hx185_1, hx185_2⟩ := at_T47 HR0.out x14_3 p185 q185
                  have hw185_2 := hx185_2
                  have hw185_1 := hx185_1
                  have hw185_0 := hx185_0
                  cases e185
                  replace hx185_0 := (HB.out.cell (World.block_lt_of_cell? w _ hx185_0)).trans hx185_0
                  replace hx185_1 := (HB.out.cell (World.block_lt_of_cell? w _ hx185_1)).trans hx185_1
                  replace hx185_2 := (HB.out.cell (World.block_lt_of_cell? w _ hx185_2)).trans hx185_2
                  replace p185 := eq_true p185
                  replace q185 := eq_true q185
                  refine start_ (n := 11) (S := fun w' => w'.cell? (ad185.add ((x14_3).toNat * 3)) = some (.int .i64 ((rd_T47 l0 x14_3).f0)) ∧ w'.cell? ⟨(ad185.add ((x14_3).toNat * 3)).block, (ad185.add ((x14_3).toNat * 3)).off + 1, none⟩ = some (.int .i64 ((rd_T47 l0 x14_3).f1)) ∧ w'.cell? ⟨(ad185.add ((x14_3).toNat * 3)).block, (ad185.add ((x14_3).toNat * 3)).off + 2, none⟩ = some (.int .i64 ((rd_T47 l0 x14_3).f2))) (ds := []) #[F,F,F,F,F,F,F,F,F,F,F] (by kernel_rfl) rfl rfl ⟨((HB.out.cell (World.block_lt_of_cell? w _ hw185_0)).trans hw185_0), ((HB.out.cell (World.block_lt_of_cell? w _ hw185_1)).trans hw185_1), ((HB.out.cell (World.block_lt_of_cell? w _ hw185_2)).trans hw185_2)⟩ (fun hHeld => ?_); refine with_tabW spec_l03Most.tab10 spec_l03Most.bits10 (fun HT_ HW_ => ?_)
                  generalize wc.drew = w41 at HB hx185_0 hx185_1 hx185_2 hHeld ⊢
                  refine pu 1 (some 72) #[F,T,F,F,F,F,F,F,F,F,F] HT_ ?_
                  refine pu 3 (some 74) #[F,T,F,T,F,F,F,F,F,F,F] HT_ ?_
                  refine pu 4 (some 75) #[F,T,F,T,T,F,F,F,F,F,F] HT_ ?_
                  refine pu 5 (some 76) #[F,T,F,T,T,T,F,F,F,F,F] HT_ ?_
                  refine pu 6 (some 77) #[F,T,F,T,T,T,T,F,F,F,F] HT_ ?_
                  refine take_ (i := 7) (N := some 78) (v := ?_) (a' := ?_) #[F,T,F,T,T,T,T,T,F,F,F] rfl rfl (take_ofW HT_.out HW_.out (by kernel_rfl)) (fun _ _ _ h => h) (Or.inl ⟨by rfl, ?_⟩) hHeld ?_ ?_
                  rotate_left;(rintro w' ⟨s0, s1, s2⟩;go_simp;with_reducible rfl);rotate_left;(simp only [uc,uA,uB,uC,uZ,ua];rfl)
                  refine join_ (σ := Value × Value × Value) 2 #[T,T,T,T,T,T,T,T,T,F,F] (fun s_ => [(71, s_.1), (73, s_.2.1), (79, s_.2.2)]) (fun s_ w' => (w'.cell? (ad185.add ((x14_3).toNat * 3)) = some (.int .i64 ((rd_T47 l0 x14_3).f0)) ∧ w'.cell? ⟨(ad185.add ((x14_3).toNat * 3)).block, (ad185.add ((x14_3).toNat * 3)).off + 1, none⟩ = some (.int .i64 ((rd_T47 l0 x14_3).f1)) ∧ w'.cell? ⟨(ad185.add ((x14_3).toNat * 3)).block, (ad185.add ((x14_3).toNat * 3)).off + 2, none⟩ = some (.int .i64 ((rd_T47 l0 x14_3).f2))) ∧ (Kd.R (Kd.int .i64) 3 w' w.heap.size (fun k_ => some k_ ≠ (s_.2.2 : Value).ownBlock) s_.2.1 y182) ∧ (Kd.R (Kd.int .i64) 3 w' w.heap.size (fun k_ => some k_ ≠ (s_.2.1 : Value).ownBlock) s_.2.2 y186) ∧ (Below w.heap.size w w')) ?_ ?_
                  rotate_left
                  ·intro hCont
                   refine two_ (i := 0) (j := 8) (Ni := some 71) (Nj := some 79) #[T,T,F,T,T,T,T,T,F,F,F] #[F,T,F,T,T,T,T,T,T,F,F] rfl rfl rfl rfl (two_of HT_.out (by kernel_rfl)) (by decide) (by decide) (fun K hK => ?_) (fun K hK => ?_)
                   ·skip
                    refine Kd.R_lit_step (Kd.int .i64) _ 3 ?hg (N := 71) ?hd (xs := ([] : List Int)) (inner := []) (ok := fun _ => True) (okp := fun _ => True) ?hr ?hp (fun _ hk => hk) trivial (Below.refl _ _) (Nat.le_refl _) (by simp) ?_; (case hd => rfl); (case hg => rfl); (case hr => first | (go_simp; done) | (go_simp; rfl)); (case hp => exact (Reps.none _ _))
                    intro v180 w42 ho43 hb hg_ hnew_
                    clear hg_ hnew_
                    (first | rw [← Ny179.out] at ho43 | (simp only [Int.reduceToNat] at ho43; rw [← Ny179.out] at ho43))
                    have HO181 := uD (Kd.R_lower ho43 (uN (pb HB)))
                    replace HB := uD (uO (pb HB) hb)
                    clear hb ho43
                    refine hK.out _ _ ⟨((HB.out.cell (World.block_lt_of_cell? w _ hw185_0)).trans hw185_0), ((HB.out.cell (World.block_lt_of_cell? w _ hw185_1)).trans hw185_1), ((HB.out.cell (World.block_lt_of_cell? w _ hw185_2)).trans hw185_2)⟩ (fun hHeld => ?_)
                    clear hK K
                    refine norm_ (a' := ?_) ?_ ?_
                    rotate_left
                    ·show uc _ (some 71) _ = _
                     simp only [uc, uA, uB, uC, uZ, ua]
                     rfl
                    refine two_ (i := 2) (j := 8) (Ni := some 73) (Nj := some 79) #[T,T,T,T,T,T,T,T,F,F,F] #[T,T,F,T,T,T,T,T,T,F,F] rfl rfl rfl rfl (two_of HT_.out (by kernel_rfl)) (by decide) (by decide) (fun K hK => ?_) (fun K hK => ?_)
                    ·skip
                     refine Kd.R_append_rows_step (Kd.int .i64) (w0 := w) w.heap.size (by rfl) (.tmp 71) (.tmp 72) 36 3 (.int .i64 0) 8 rfl Try.underlying36 info3 rfl (by decide) (by omega) v180 y179 l3 _ _ _ (fun _ => True) (fun _ => False) rfl rfl ?aO ?aR (fun _ _ h => h) (fun _ h => h.elim) ?aF ?aB ?aS ?aL ?_
                     (case aR => repeat (first | exact (Kd.C_below HR3.out HB.out) | (with_reducible refine Kd.C_alloc ?_ _) | (with_reducible refine Kd.C_drewN ?_ _) | (with_reducible refine Kd.C_drew ?_)))
                     (case aB => exact (pb HB))
                     (case aF => exact (fun _ _ => trivial))
                     (case aO => exact (pr HO181))
                     (case aS => exact (uN (pb HB)))
                     (case aL => have := LMc23.out; omega)
                     intro v183 w44 ho hb hg hat
                     rw [← Ny182.out] at ho
                     replace HB := uD (hb)
                     have HO184 := uD (ho)
                     clear HO181
                     clear ho hb hg hat
                     refine hK.out _ _ ⟨((HB.out.cell (World.block_lt_of_cell? w _ hw185_0)).trans hw185_0), ((HB.out.cell (World.block_lt_of_cell? w _ hw185_1)).trans hw185_1), ((HB.out.cell (World.block_lt_of_cell? w _ hw185_2)).trans hw185_2)⟩ (fun hHeld => ?_)
                     clear hK K
                     refine norm_ (a' := ?_) ?_ ?_
                     rotate_left
                     ·show uc _ (some 73) _ = _
                      simp only [uc, uA, uB, uC, uZ, ua]
                      rfl
                     refine one_ (i := 8) (N := some 79) #[T,T,T,T,T,T,T,T,T,F,F] rfl rfl (one_of HT_.out (by kernel_rfl)) (by decide) (fun K hK => ?_)
                     refine Kd.R_lit_step (Kd.int .i64) _ 3 ?hg (N := 79) ?hd (xs := ([(rd_T47 l0 x14_3).f0] : List Int)) (inner := [.int .i64 ((rd_T47 l0 x14_3).f0)]) (ok := fun _ => True) (okp := fun _ => True) ?hr ?hp (fun _ hk => hk) trivial (Below.refl _ _) (Nat.le_refl _) (by simp) ?_; (case hd => rfl); (case hg => rfl); (case hr => first | (go_simp; done) | (go_simp; rfl)); (case hp => exact (Reps.one (show Kd.M (Kd.int .i64) _ _ _ ((rd_T47 l0 x14_3).f0) [.int .i64 ((rd_T47 l0 x14_3).f0)] from rfl) (Reps.none _ _)))
                     intro v187 w45 ho46 hb hg_ hnew_
                     clear hg_ hnew_
                     (first | rw [← Ny186.out] at ho46 | (simp only [Int.reduceToNat] at ho46; rw [← Ny186.out] at ho46))
                     have HO188 := uD (Kd.R_lower (Kd.R_new' ho46 (Kd.R_lt (pr HO184))) (uN (pb HB)))
                     replace HO184 := uD (Kd.R_elder' (pr HO184) (Kd.R_base ho46) hb)
                     replace HB := uD (uO (pb HB) hb)
                     clear hb ho46
                     refine hK.out _ _ ⟨((HB.out.cell (World.block_lt_of_cell? w _ hw185_0)).trans hw185_0), ((HB.out.cell (World.block_lt_of_cell? w _ hw185_1)).trans hw185_1), ((HB.out.cell (World.block_lt_of_cell? w _ hw185_2)).trans hw185_2)⟩ (fun hHeld => ?_)
                     clear hK K
                     refine norm_ (a' := ?_) ?_ ?_
                     rotate_left
                     ·show uc _ (some 79) _ = _
                      simp only [uc, uA, uB, uC, uZ, ua]
                      rfl
                     exact norm_ (by simp only [putAll, uc, uA, uB, uC]) (hCont (v180, v183, v187) _ ⟨hHeld, (by (with_reducible repeat (first | apply uU | apply uS | apply uT)); exact uX HO184.out (fun _ hk => hk.2)), (by (with_reducible repeat (first | apply uU | apply uS | apply uT)); exact uX HO188.out (fun _ hk => hk.2)), (pb HB)⟩)
                    ·skip
                     refine Kd.R_lit_step (Kd.int .i64) _ 3 ?hg (N := 79) ?hd (xs := ([(rd_T47 l0 x14_3).f0] : List Int)) (inner := [.int .i64 ((rd_T47 l0 x14_3).f0)]) (ok := fun _ => True) (okp := fun _ => True) ?hr ?hp (fun _ hk => hk) trivial (Below.refl _ _) (Nat.le_refl _) (by simp) ?_; (case hd => rfl); (case hg => rfl); (case hr => first | (go_simp; done) | (go_simp; rfl)); (case hp => exact (Reps.one (show Kd.M (Kd.int .i64) _ _ _ ((rd_T47 l0 x14_3).f0) [.int .i64 ((rd_T47 l0 x14_3).f0)] from rfl) (Reps.none _ _)))
                     intro v187 w44 ho45 hb hg_ hnew_
                     clear hg_ hnew_
                     (first | rw [← Ny186.out] at ho45 | (simp only [Int.reduceToNat] at ho45; rw [← Ny186.out] at ho45))
                     have HO188 := uD (Kd.R_lower (Kd.R_new' ho45 (Kd.R_lt (pr HO181))) (uN (pb HB)))
                     replace HO181 := uD (Kd.R_elder' (pr HO181) (Kd.R_base ho45) hb)
                     replace HB := uD (uO (pb HB) hb)
                     clear hb ho45
                     refine hK.out _ _ ⟨((HB.out.cell (World.block_lt_of_cell? w _ hw185_0)).trans hw185_0), ((HB.out.cell (World.block_lt_of_cell? w _ hw185_1)).trans hw185_1), ((HB.out.cell (World.block_lt_of_cell? w _ hw185_2)).trans hw185_2)⟩ (fun hHeld => ?_)
                     clear hK K
                     refine norm_ (a' := ?_) ?_ ?_
                     rotate_left
                     ·show uc _ (some 79) _ = _
                      simp only [uc, uA, uB, uC, uZ, ua]
                      rfl
                     refine one_ (i := 2) (N := some 73) #[T,T,T,T,T,T,T,T,T,F,F] rfl rfl (one_of HT_.out (by kernel_rfl)) (by decide) (fun K hK => ?_)
                     refine Kd.R_append_rows_step (Kd.int .i64) (w0 := w) w.heap.size (by rfl) (.tmp 71) (.tmp 72) 36 3 (.int .i64 0) 8 rfl Try.underlying36 info3 rfl (by decide) (by omega) v180 y179 l3 _ _ _ (fun k_ => some k_ ≠ (v187 : Value).ownBlock) (fun _ => False) rfl rfl ?aO ?aR (fun _ _ h => h) (fun _ h => h.elim) ?aF ?aB ?aS ?aL ?_
                     (case aR => repeat (first | exact (Kd.C_below HR3.out HB.out) | (with_reducible refine Kd.C_alloc ?_ _) | (with_reducible refine Kd.C_drewN ?_ _) | (with_reducible refine Kd.C_drew ?_)))
                     (case aB => exact (pb HB))
                     (case aF => exact (fun k_ hk => Kd.fresh' (Kd.R_lt (pr HO188)) k_ hk))
                     (case aO => exact (by (with_reducible repeat (first | apply uU | apply uS | apply uT)); exact uX HO181.out (fun _ hk => hk.2)))
                     (case aS => exact (uN (pb HB)))
                     (case aL => have := LMc23.out; omega)
                     intro v183 w46 ho hb hg hat
                     rw [← Ny182.out] at ho
                     replace HO188 := uD (Kd.R_after (ok := (fun _ => True)) (pr HO188) hg hat)
                     replace HB := uD (hb)
                     have HO184 := uD (ho)
                     clear HO181
                     clear ho hb hg hat
                     refine hK.out _ _ ⟨((HB.out.cell (World.block_lt_of_cell? w _ hw185_0)).trans hw185_0), ((HB.out.cell (World.block_lt_of_cell? w _ hw185_1)).trans hw185_1), ((HB.out.cell (World.block_lt_of_cell? w _ hw185_2)).trans hw185_2)⟩ (fun hHeld => ?_)
                     clear hK K
                     refine norm_ (a' := ?_) ?_ ?_
                     rotate_left
                     ·show uc _ (some 73) _ = _
                      simp only [uc, uA, uB, uC, uZ, ua]
                      rfl
                     exact norm_ (by simp only [putAll, uc, uA, uB, uC]) (hCont (v180, v183, v187) _ ⟨hHeld, (pr HO184), (by (with_reducible repeat (first | apply uU | apply uS | apply uT)); exact uX HO188.out (fun _ hk => hk.2)), (pb HB)⟩)
                   ·skip
                    refine Kd.R_lit_step (Kd.int .i64) _ 3 ?hg (N := 79) ?hd (xs := ([(rd_T47 l0 x14_3).f0] : List Int)) (inner := [.int .i64 ((rd_T47 l0 x14_3).f0)]) (ok := fun _ => True) (okp := fun _ => True) ?hr ?hp (fun _ hk => hk) trivial (Below.refl _ _) (Nat.le_refl _) (by simp) ?_; (case hd => rfl); (case hg => rfl); (case hr => first | (go_simp; done) | (go_simp; rfl)); (case hp => exact (Reps.one (show Kd.M (Kd.int .i64) _ _ _ ((rd_T47 l0 x14_3).f0) [.int .i64 ((rd_T47 l0 x14_3).f0)] from rfl) (Reps.none _ _)))
                    intro v187 w42 ho43 hb hg_ hnew_
                    clear hg_ hnew_
                    (first | rw [← Ny186.out] at ho43 | (simp only [Int.reduceToNat] at ho43; rw [← Ny186.out] at ho43))
                    have HO188 := uD (Kd.R_lower ho43 (uN (pb HB)))
                    replace HB := uD (uO (pb HB) hb)
                    clear hb ho43
                    refine hK.out _ _ ⟨((HB.out.cell (World.block_lt_of_cell? w _ hw185_0)).trans hw185_0), ((HB.out.cell (World.block_lt_of_cell? w _ hw185_1)).trans hw185_1), ((HB.out.cell (World.block_lt_of_cell? w _ hw185_2)).trans hw185_2)⟩ (fun hHeld => ?_)
                    clear hK K
                    refine norm_ (a' := ?_) ?_ ?_
                    rotate_left
                    ·show uc _ (some 79) _ = _
                     simp only [uc, uA, uB, uC, uZ, ua]
                     rfl
                    refine one_ (i := 0) (N := some 71) #[T,T,F,T,T,T,T,T,T,F,F] rfl rfl (one_of HT_.out (by kernel_rfl)) (by decide) (fun K hK => ?_)
                    refine Kd.R_lit_step (Kd.int .i64) _ 3 ?hg (N := 71) ?hd (xs := ([] : List Int)) (inner := []) (ok := fun _ => True) (okp := fun _ => True) ?hr ?hp (fun _ hk => hk) trivial (Below.refl _ _) (Nat.le_refl _) (by simp) ?_; (case hd => rfl); (case hg => rfl); (case hr => first | (go_simp; done) | (go_simp; rfl)); (case hp => exact (Reps.none _ _))
                    intro v180 w44 ho45 hb hg_ hnew_
                    clear hg_ hnew_
                    (first | rw [← Ny179.out] at ho45 | (simp only [Int.reduceToNat] at ho45; rw [← Ny179.out] at ho45))
                    have HO181 := uD (Kd.R_lower (Kd.R_new' ho45 (Kd.R_lt (pr HO188))) (uN (pb HB)))
                    replace HO188 := uD (Kd.R_elder' (pr HO188) (Kd.R_base ho45) hb)
                    replace HB := uD (uO (pb HB) hb)
                    clear hb ho45
                    refine hK.out _ _ ⟨((HB.out.cell (World.block_lt_of_cell? w _ hw185_0)).trans hw185_0), ((HB.out.cell (World.block_lt_of_cell? w _ hw185_1)).trans hw185_1), ((HB.out.cell (World.block_lt_of_cell? w _ hw185_2)).trans hw185_2)⟩ (fun hHeld => ?_)
                    clear hK K
                    refine norm_ (a' := ?_) ?_ ?_
                    rotate_left
                    ·show uc _ (some 71) _ = _
                     simp only [uc, uA, uB, uC, uZ, ua]
                     rfl
                    refine one_ (i := 2) (N := some 73) #[T,T,T,T,T,T,T,T,T,F,F] rfl rfl (one_of HT_.out (by kernel_rfl)) (by decide) (fun K hK => ?_)
                    refine Kd.R_append_rows_step (Kd.int .i64) (w0 := w) w.heap.size (by rfl) (.tmp 71) (.tmp 72) 36 3 (.int .i64 0) 8 rfl Try.underlying36 info3 rfl (by decide) (by omega) v180 y179 l3 _ _ _ (fun k_ => some k_ ≠ (v187 : Value).ownBlock) (fun _ => False) rfl rfl ?aO ?aR (fun _ _ h => h) (fun _ h => h.elim) ?aF ?aB ?aS ?aL ?_
                    (case aR => repeat (first | exact (Kd.C_below HR3.out HB.out) | (with_reducible refine Kd.C_alloc ?_ _) | (with_reducible refine Kd.C_drewN ?_ _) | (with_reducible refine Kd.C_drew ?_)))
                    (case aB => exact (pb HB))
                    (case aF => exact (fun k_ hk => Kd.fresh' (Kd.R_lt (pr HO188)) k_ hk))
                    (case aO => exact (by (with_reducible repeat (first | apply uU | apply uS | apply uT)); exact uX HO181.out (fun _ hk => hk.2)))
                    (case aS => exact (uN (pb HB)))
                    (case aL => have := LMc23.out; omega)
                    intro v183 w46 ho hb hg hat
                    rw [← Ny182.out] at ho
                    replace HO188 := uD (Kd.R_after (ok := (fun _ => True)) (pr HO188) hg hat)
                    replace HB := uD (hb)
                    have HO184 := uD (ho)
                    clear HO181
                    clear ho hb hg hat
                    refine hK.out _ _ ⟨((HB.out.cell (World.block_lt_of_cell? w _ hw185_0)).trans hw185_0), ((HB.out.cell (World.block_lt_of_cell? w _ hw185_1)).trans hw185_1), ((HB.out.cell (World.block_lt_of_cell? w _ hw185_2)).trans hw185_2)⟩ (fun hHeld => ?_)
                    clear hK K
                    refine norm_ (a' := ?_) ?_ ?_
                    rotate_left
                    ·show uc _ (some 73) _ = _
                     simp only [uc, uA, uB, uC, uZ, ua]
                     rfl
                    exact norm_ (by simp only [putAll, uc, uA, uB, uC]) (hCont (v180, v183, v187) _ ⟨hHeld, (pr HO184), (by (with_reducible repeat (first | apply uU | apply uS | apply uT)); exact uX HO188.out (fun _ hk => hk.2)), (pb HB)⟩)
                  rintro ⟨v180, v183, v187⟩ w47 ⟨hS_, h0_, h1_, h2_⟩
                  have n0_ : Aside0 (Kd.R (Kd.int .i64) 3 w47 w.heap.size (fun k_ => some k_ ≠ (v187 : Value).ownBlock) v183 y182) := ⟨h0_⟩
                  have n1_ : Aside0 (Kd.R (Kd.int .i64) 3 w47 w.heap.size (fun k_ => some k_ ≠ (v183 : Value).ownBlock) v187 y186) := ⟨h1_⟩
                  have n2_ : Aside0 (Below w.heap.size w w47) := ⟨h2_⟩
                  clear HB
                  clear h0_ h1_ h2_
                  have HO184 := n0_
                  have HO188 := n1_
                  have HB := n2_
                  clear n0_ n1_ n2_
                  have hHeld : w47.cell? (ad185.add ((x14_3).toNat * 3)) = some (.int .i64 ((rd_T47 l0 x14_3).f0)) ∧ w47.cell? ⟨(ad185.add ((x14_3).toNat * 3)).block, (ad185.add ((x14_3).toNat * 3)).off + 1, none⟩ = some (.int .i64 ((rd_T47 l0 x14_3).f1)) ∧ w47.cell? ⟨(ad185.add ((x14_3).toNat * 3)).block, (ad185.add ((x14_3).toNat * 3)).off + 2, none⟩ = some (.int .i64 ((rd_T47 l0 x14_3).f2)) := hS_
                  obtain ⟨Ao49, co49, eo49⟩ := Kd.R_slice HO188.out
                  (first | subst eo49 | (injection eo49 with f1_ f2_ f3_; have f4_ := f1_.symm; have f5_ := f3_.symm; clear f1_ f2_ f3_; subst f4_; subst f5_))
                  refine norm_ (a' := ?_) ?_ ?_
                  rotate_left
                  ·simp only [putAll, uc, uA, uB, uC]
                   rfl
                  refine one_ (i := 9) (N := some 80) #[T,T,T,T,T,T,T,T,T,T,F] rfl rfl (one_of HT_.out (by kernel_rfl)) (by decide) (fun K hK => ?_)
                  refine Kd.R_append_rows_step (Kd.int .i64) (w0 := w) w.heap.size (by rfl) (.tmp 73) (.tmp 79) 36 3 (.int .i64 0) 8 rfl Try.underlying36 info3 rfl (by decide) (by omega) v183 y182 y186 _ _ _ (fun k_ => some k_ ≠ (.slice Ao49 y186.length co49 : Value).ownBlock) (fun _ => False) rfl rfl ?aO ?aR (fun _ _ h => h) (fun _ h => h.elim) ?aF ?aB ?aS ?aL ?_
                  (case aR => repeat (first | exact (Kd.R_reads' HO188.out).2.2 | (with_reducible refine Kd.C_alloc ?_ _) | (with_reducible refine Kd.C_drewN ?_ _) | (with_reducible refine Kd.C_drew ?_)))
                  (case aB => exact (pb HB))
                  (case aF => exact (fun k_ hk => Kd.fresh' (Kd.R_lt (pr HO188)) k_ hk))
                  (case aO => exact (pr HO184))
                  (case aS => exact (uN (pb HB)))
                  (case aL => have := LMc26.out; omega)
                  intro v190 w48 ho hb hg hat
                  rw [← Ny189.out] at ho
                  replace HO188 := uD (Kd.R_after (ok := (fun _ => True)) (by (with_reducible repeat (first | apply uU | apply uS | apply uT)); exact uX HO188.out (fun _ hk => ⟨trivial, hk⟩)) hg hat)
                  replace HB := uD (hb)
                  have HO191 := uD (ho)
                  clear HO184
                  clear ho hb hg hat
                  refine hK.out _ _ ⟨((HB.out.cell (World.block_lt_of_cell? w _ hw185_0)).trans hw185_0), ((HB.out.cell (World.block_lt_of_cell? w _ hw185_1)).trans hw185_1), ((HB.out.cell (World.block_lt_of_cell? w _ hw185_2)).trans hw185_2)⟩ (fun hHeld => ?_)
                  clear hK K
                  refine norm_ (a' := ?_) ?_ ?_
                  rotate_left
                  ·show uc _ (some 80) _ = _
                   simp only [uc, uA, uB, uC, uZ, ua]
                   rfl
                  refine pu 10 (some 15) #[T,T,T,T,T,T,T,T,T,T,T] HT_ ?_
                  refine done_ (done_of HT_.out (by kernel_rfl)) ?_
                  obtain ⟨Ao50, co50, eo50⟩ := Kd.R_slice HO191.out
                  subst eo50
                  try go_wp2_with (first | ((with_reducible refine gate_callee (f := 67) rfl ?_); refine goesL_ (some 88) rfl rfl Try.func67 (by kernel_rfl) rfl #[.slice (some ad185) l0.length c0, .slice A1 l1.length c1, .int .i64 (wrap64 (a2 + 1)), .slice Ao50 y189.length co50, .int .i64 a4, .int .i64 a5] rfl (by (try simp only [List.map_toArray, List.map_cons, List.map_nil]); first | done | rfl | (simp only [List.length_drop, List.length_take]; rfl)) ?_; (with_reducible refine (ih kj14 (by have := HJ7.out; have := HJ9.out; have := HK3.out; have := HJ14.out; omega) _ _ l0 _ _ l1 (wrap64 (a2 + 1)) _ _ y189 a4 a5 t192 _ ?side1 ?side2 ?side3 ?side4 ?side5 ?side6 A27.out).mono ?_); (case side1 => repeat (first | exact (Kd.C_below HR0.out HB.out) | (with_reducible refine Kd.C_alloc ?_ _) | (with_reducible refine Kd.C_drewN ?_ _) | (with_reducible refine Kd.C_drew ?_))); (case side2 => exact HC0.out); (case side3 => repeat (first | exact (Kd.C_below HR1.out HB.out) | (with_reducible refine Kd.C_alloc ?_ _) | (with_reducible refine Kd.C_drewN ?_ _) | (with_reducible refine Kd.C_drew ?_))); (case side4 => exact HC1.out); (case side5 => repeat (first | exact (Kd.R_reads' HO191.out).2.2 | (with_reducible refine Kd.C_alloc ?_ _) | (with_reducible refine Kd.C_drewN ?_ _) | (with_reducible refine Kd.C_drew ?_))); (case side6 => exact (Kd.R_reads' HO191.out).2.1); rintro e w51 ⟨rfl, hb⟩; refine ⟨_, rfl, ?_⟩; replace HO188 := uD (Kd.R_below (pr HO188) hb); replace HO191 := uD (Kd.R_below (pr HO191) hb); replace HB := uD (uO (pb HB) hb); (try clear hb); (try clear hb2); (try clear hk); (try clear hi)))
                  go_roundg kj14
                  case measure => have := HJ7.out; have := HJ9.out; have := HK3.out; have := HJ14.out; omega
                  case rel => exact ⟨(x13_3), (wrap64 (x14_3 + 1)), (by first | rfl | (simp; done) | (simp [*]; done)), (by first | rfl | (simp; done) | (simp [*]; done)), H', ⟨by have := HJ7.out; have := HJ9.out; have := HK3.out; have := HJ14.out; omega⟩, ⟨pb HB⟩⟩
                ·rw [if_neg c28] at H
                 have c28b0 : decide (0 ≤ t192) = false := decide_eq_false c28
                 clear c28
                 have H' := uD H
                 clear H
                 try go_wp2
                 replace HB := uD (uK HB.out)
                 have p185 : 0 ≤ (x14_3 : Int) := of_decide_eq_true (by first | (with_reducible assumption) | assumption)
                 have q185 : x14_3 < (l0.length : Int) := of_decide_eq_true (by first | (with_reducible assumption) | assumption)
                 obtain ⟨ad185, e185, hx185_0, hx185_1, hx185_2⟩ := at_T47 HR0.out x14_3 p185 q185
                 have hw185_2 := hx185_2
                 have hw185_1 := hx185_1
                 have hw185_0 := hx185_0
                 cases e185
                 replace hx185_0 := (HB.out.cell (World.block_lt_of_cell? w _ hx185_0)).trans hx185_0
                 replace hx185_1 := (HB.out.cell (World.block_lt_of_cell? w _ hx185_1)).trans hx185_1
                 replace hx185_2 := (HB.out.cell (World.block_lt_of_cell? w _ hx185_2)).trans hx185_2
                 replace p185 := eq_true p185
                 replace q185 := eq_true q185
                 refine start_ (n := 11) (S := fun w' => w'.cell? (ad185.add ((x14_3).toNat * 3)) = some (.int .i64 ((rd_T47 l0 x14_3).f0)) ∧ w'.cell? ⟨(ad185.add ((x14_3).toNat * 3)).block, (ad185.add ((x14_3).toNat * 3)).off + 1, none⟩ = some (.int .i64 ((rd_T47 l0 x14_3).f1)) ∧ w'.cell? ⟨(ad185.add ((x14_3).toNat * 3)).block, (ad185.add ((x14_3).toNat * 3)).off + 2, none⟩ = some (.int .i64 ((rd_T47 l0 x14_3).f2))) (ds := []) #[F,F,F,F,F,F,F,F,F,F,F] (by kernel_rfl) rfl rfl ⟨((HB.out.cell (World.block_lt_of_cell? w _ hw185_0)).trans hw185_0), ((HB.out.cell (World.block_lt_of_cell? w _ hw185_1)).trans hw185_1), ((HB.out.cell (World.block_lt_of_cell? w _ hw185_2)).trans hw185_2)⟩ (fun hHeld => ?_); refine with_tabW spec_l03Most.tab10 spec_l03Most.bits10 (fun HT_ HW_ => ?_)
                 generalize wc.drew = w52 at HB hx185_0 hx185_1 hx185_2 hHeld ⊢
                 refine pu 1 (some 72) #[F,T,F,F,F,F,F,F,F,F,F] HT_ ?_
                 refine pu 3 (some 74) #[F,T,F,T,F,F,F,F,F,F,F] HT_ ?_
                 refine pu 4 (some 75) #[F,T,F,T,T,F,F,F,F,F,F] HT_ ?_
                 refine pu 5 (some 76) #[F,T,F,T,T,T,F,F,F,F,F] HT_ ?_
                 refine pu 6 (some 77) #[F,T,F,T,T,T,T,F,F,F,F] HT_ ?_
                 refine take_ (i := 7) (N := some 78) (v := ?_) (a' := ?_) #[F,T,F,T,T,T,T,T,F,F,F] rfl rfl (take_ofW HT_.out HW_.out (by kernel_rfl)) (fun _ _ _ h => h) (Or.inl ⟨by rfl, ?_⟩) hHeld ?_ ?_
                 rotate_left;(rintro w' ⟨s0, s1, s2⟩;go_simp;with_reducible rfl);rotate_left;(simp only [uc,uA,uB,uC,uZ,ua];rfl)
                 refine join_ (σ := Value × Value × Value) 2 #[T,T,T,T,T,T,T,T,T,F,F] (fun s_ => [(71, s_.1), (73, s_.2.1), (79, s_.2.2)]) (fun s_ w' => (w'.cell? (ad185.add ((x14_3).toNat * 3)) = some (.int .i64 ((rd_T47 l0 x14_3).f0)) ∧ w'.cell? ⟨(ad185.add ((x14_3).toNat * 3)).block, (ad185.add ((x14_3).toNat * 3)).off + 1, none⟩ = some (.int .i64 ((rd_T47 l0 x14_3).f1)) ∧ w'.cell? ⟨(ad185.add ((x14_3).toNat * 3)).block, (ad185.add ((x14_3).toNat * 3)).off + 2, none⟩ = some (.int .i64 ((rd_T47 l0 x14_3).f2))) ∧ (Kd.R (Kd.int .i64) 3 w' w.heap.size (fun k_ => some k_ ≠ (s_.2.2 : Value).ownBlock) s_.2.1 y182) ∧ (Kd.R (Kd.int .i64) 3 w' w.heap.size (fun k_ => some k_ ≠ (s_.2.1 : Value).ownBlock) s_.2.2 y186) ∧ (Below w.heap.size w w')) ?_ ?_
                 rotate_left
                 ·intro hCont
                  refine two_ (i := 0) (j := 8) (Ni := some 71) (Nj := some 79) #[T,T,F,T,T,T,T,T,F,F,F] #[F,T,F,T,T,T,T,T,T,F,F] rfl rfl rfl rfl (two_of HT_.out (by kernel_rfl)) (by decide) (by decide) (fun K hK => ?_) (fun K hK => ?_)
                  ·skip
                   refine Kd.R_lit_step (Kd.int .i64) _ 3 ?hg (N := 71) ?hd (xs := ([] : List Int)) (inner := []) (ok := fun _ => True) (okp := fun _ => True) ?hr ?hp (fun _ hk => hk) trivial (Below.refl _ _) (Nat.le_refl _) (by simp) ?_; (case hd => rfl); (case hg => rfl); (case hr => first | (go_simp; done) | (go_simp; rfl)); (case hp => exact (Reps.none _ _))
                   intro v180 w53 ho54 hb hg_ hnew_
                   clear hg_ hnew_
                   (first | rw [← Ny179.out] at ho54 | (simp only [Int.reduceToNat] at ho54; rw [← Ny179.out] at ho54))
                   have HO181 := uD (Kd.R_lower ho54 (uN (pb HB)))
                   replace HB := uD (uO (pb HB) hb)
                   clear hb ho54
                   refine hK.out _ _ ⟨((HB.out.cell (World.block_lt_of_cell? w _ hw185_0)).trans hw185_0), ((HB.out.cell (World.block_lt_of_cell? w _ hw185_1)).trans hw185_1), ((HB.out.cell (World.block_lt_of_cell? w _ hw185_2)).trans hw185_2)⟩ (fun hHeld => ?_)
                   clear hK K
                   refine norm_ (a' := ?_) ?_ ?_
                   rotate_left
                   ·show uc _ (some 71) _ = _
                    simp only [uc, uA, uB, uC, uZ, ua]
                    rfl
                   refine two_ (i := 2) (j := 8) (Ni := some 73) (Nj := some 79) #[T,T,T,T,T,T,T,T,F,F,F] #[T,T,F,T,T,T,T,T,T,F,F] rfl rfl rfl rfl (two_of HT_.out (by kernel_rfl)) (by decide) (by decide) (fun K hK => ?_) (fun K hK => ?_)
                   ·skip
                    refine Kd.R_append_rows_step (Kd.int .i64) (w0 := w) w.heap.size (by rfl) (.tmp 71) (.tmp 72) 36 3 (.int .i64 0) 8 rfl Try.underlying36 info3 rfl (by decide) (by omega) v180 y179 l3 _ _ _ (fun _ => True) (fun _ => False) rfl rfl ?aO ?aR (fun _ _ h => h) (fun _ h => h.elim) ?aF ?aB ?aS ?aL ?_
                    (case aR => repeat (first | exact (Kd.C_below HR3.out HB.out) | (with_reducible refine Kd.C_alloc ?_ _) | (with_reducible refine Kd.C_drewN ?_ _) | (with_reducible refine Kd.C_drew ?_)))
                    (case aB => exact (pb HB))
                    (case aF => exact (fun _ _ => trivial))
                    (case aO => exact (pr HO181))
                    (case aS => exact (uN (pb HB)))
                    (case aL => have := LMc23.out; omega)
                    intro v183 w55 ho hb hg hat
                    rw [← Ny182.out] at ho
                    replace HB := uD (hb)
                    have HO184 := uD (ho)
                    clear HO181
                    clear ho hb hg hat
                    refine hK.out _ _ ⟨((HB.out.cell (World.block_lt_of_cell? w _ hw185_0)).trans hw185_0), ((HB.out.cell (World.block_lt_of_cell? w _ hw185_1)).trans hw185_1), ((HB.out.cell (World.block_lt_of_cell? w _ hw185_2)).trans hw185_2)⟩ (fun hHeld => ?_)
                    clear hK K
                    refine norm_ (a' := ?_) ?_ ?_
                    rotate_left
                    ·show uc _ (some 73) _ = _
                     simp only [uc, uA, uB, uC, uZ, ua]
                     rfl
                    refine one_ (i := 8) (N := some 79) #[T,T,T,T,T,T,T,T,T,F,F] rfl rfl (one_of HT_.out (by kernel_rfl)) (by decide) (fun K hK => ?_)
                    refine Kd.R_lit_step (Kd.int .i64) _ 3 ?hg (N := 79) ?hd (xs := ([(rd_T47 l0 x14_3).f0] : List Int)) (inner := [.int .i64 ((rd_T47 l0 x14_3).f0)]) (ok := fun _ => True) (okp := fun _ => True) ?hr ?hp (fun _ hk => hk) trivial (Below.refl _ _) (Nat.le_refl _) (by simp) ?_; (case hd => rfl); (case hg => rfl); (case hr => first | (go_simp; done) | (go_simp; rfl)); (case hp => exact (Reps.one (show Kd.M (Kd.int .i64) _ _ _ ((rd_T47 l0 x14_3).f0) [.int .i64 ((rd_T47 l0 x14_3).f0)] from rfl) (Reps.none _ _)))
                    intro v187 w56 ho57 hb hg_ hnew_
                    clear hg_ hnew_
                    (first | rw [← Ny186.out] at ho57 | (simp only [Int.reduceToNat] at ho57; rw [← Ny186.out] at ho57))
                    have HO188 := uD (Kd.R_lower (Kd.R_new' ho57 (Kd.R_lt (pr HO184))) (uN (pb HB)))
                    replace HO184 := uD (Kd.R_elder' (pr HO184) (Kd.R_base ho57) hb)
                    replace HB := uD (uO (pb HB) hb)
                    clear hb ho57
                    refine hK.out _ _ ⟨((HB.out.cell (World.block_lt_of_cell? w _ hw185_0)).trans hw185_0), ((HB.out.cell (World.block_lt_of_cell? w _ hw185_1)).trans hw185_1), ((HB.out.cell (World.block_lt_of_cell? w _ hw185_2)).trans hw185_2)⟩ (fun hHeld => ?_)
                    clear hK K
                    refine norm_ (a' := ?_) ?_ ?_
                    rotate_left
                    ·show uc _ (some 79) _ = _
                     simp only [uc, uA, uB, uC, uZ, ua]
                     rfl
                    exact norm_ (by simp only [putAll, uc, uA, uB, uC]) (hCont (v180, v183, v187) _ ⟨hHeld, (by (with_reducible repeat (first | apply uU | apply uS | apply uT)); exact uX HO184.out (fun _ hk => hk.2)), (by (with_reducible repeat (first | apply uU | apply uS | apply uT)); exact uX HO188.out (fun _ hk => hk.2)), (pb HB)⟩)
                   ·skip
                    refine Kd.R_lit_step (Kd.int .i64) _ 3 ?hg (N := 79) ?hd (xs := ([(rd_T47 l0 x14_3).f0] : List Int)) (inner := [.int .i64 ((rd_T47 l0 x14_3).f0)]) (ok := fun _ => True) (okp := fun _ => True) ?hr ?hp (fun _ hk => hk) trivial (Below.refl _ _) (Nat.le_refl _) (by simp) ?_; (case hd => rfl); (case hg => rfl); (case hr => first | (go_simp; done) | (go_simp; rfl)); (case hp => exact (Reps.one (show Kd.M (Kd.int .i64) _ _ _ ((rd_T47 l0 x14_3).f0) [.int .i64 ((rd_T47 l0 x14_3).f0)] from rfl) (Reps.none _ _)))
                    intro v187 w55 ho56 hb hg_ hnew_
                    clear hg_ hnew_
                    (first | rw [← Ny186.out] at ho56 | (simp only [Int.reduceToNat] at ho56; rw [← Ny186.out] at ho56))
                    have HO188 := uD (Kd.R_lower (Kd.R_new' ho56 (Kd.R_lt (pr HO181))) (uN (pb HB)))
                    replace HO181 := uD (Kd.R_elder' (pr HO181) (Kd.R_base ho56) hb)
                    replace HB := uD (uO (pb HB) hb)
                    clear hb ho56
                    refine hK.out _ _ ⟨((HB.out.cell (World.block_lt_of_cell? w _ hw185_0)).trans hw185_0), ((HB.out.cell (World.block_lt_of_cell? w _ hw185_1)).trans hw185_1), ((HB.out.cell (World.block_lt_of_cell? w _ hw185_2)).trans hw185_2)⟩ (fun hHeld => ?_)
                    clear hK K
                    refine norm_ (a' := ?_) ?_ ?_
                    rotate_left
                    ·show uc _ (some 79) _ = _
                     simp only [uc, uA, uB, uC, uZ, ua]
                     rfl
                    refine one_ (i := 2) (N := some 73) #[T,T,T,T,T,T,T,T,T,F,F] rfl rfl (one_of HT_.out (by kernel_rfl)) (by decide) (fun K hK => ?_)
                    refine Kd.R_append_rows_step (Kd.int .i64) (w0 := w) w.heap.size (by rfl) (.tmp 71) (.tmp 72) 36 3 (.int .i64 0) 8 rfl Try.underlying36 info3 rfl (by decide) (by omega) v180 y179 l3 _ _ _ (fun k_ => some k_ ≠ (v187 : Value).ownBlock) (fun _ => False) rfl rfl ?aO ?aR (fun _ _ h => h) (fun _ h => h.elim) ?aF ?aB ?aS ?aL ?_
                    (case aR => repeat (first | exact (Kd.C_below HR3.out HB.out) | (with_reducible refine Kd.C_alloc ?_ _) | (with_reducible refine Kd.C_drewN ?_ _) | (with_reducible refine Kd.C_drew ?_)))
                    (case aB => exact (pb HB))
                    (case aF => exact (fun k_ hk => Kd.fresh' (Kd.R_lt (pr HO188)) k_ hk))
                    (case aO => exact (by (with_reducible repeat (first | apply uU | apply uS | apply uT)); exact uX HO181.out (fun _ hk => hk.2)))
                    (case aS => exact (uN (pb HB)))
                    (case aL => have := LMc23.out; omega)
                    intro v183 w57 ho hb hg hat
                    rw [← Ny182.out] at ho
                    replace HO188 := uD (Kd.R_after (ok := (fun _ => True)) (pr HO188) hg hat)
                    replace HB := uD (hb)
                    have HO184 := uD (ho)
                    clear HO181
                    clear ho hb hg hat
                    refine hK.out _ _ ⟨((HB.out.cell (World.block_lt_of_cell? w _ hw185_0)).trans hw185_0), ((HB.out.cell (World.block_lt_of_cell? w _ hw185_1)).trans hw185_1), ((HB.out.cell (World.block_lt_of_cell? w _ hw185_2)).trans hw185_2)⟩ (fun hHeld => ?_)
                    clear hK K
                    refine norm_ (a' := ?_) ?_ ?_
                    rotate_left
                    ·show uc _ (some 73) _ = _
                     simp only [uc, uA, uB, uC, uZ, ua]
                     rfl
                    exact norm_ (by simp only [putAll, uc, uA, uB, uC]) (hCont (v180, v183, v187) _ ⟨hHeld, (pr HO184), (by (with_reducible repeat (first | apply uU | apply uS | apply uT)); exact uX HO188.out (fun _ hk => hk.2)), (pb HB)⟩)
                  ·skip
                   refine Kd.R_lit_step (Kd.int .i64) _ 3 ?hg (N := 79) ?hd (xs := ([(rd_T47 l0 x14_3).f0] : List Int)) (inner := [.int .i64 ((rd_T47 l0 x14_3).f0)]) (ok := fun _ => True) (okp := fun _ => True) ?hr ?hp (fun _ hk => hk) trivial (Below.refl _ _) (Nat.le_refl _) (by simp) ?_; (case hd => rfl); (case hg => rfl); (case hr => first | (go_simp; done) | (go_simp; rfl)); (case hp => exact (Reps.one (show Kd.M (Kd.int .i64) _ _ _ ((rd_T47 l0 x14_3).f0) [.int .i64 ((rd_T47 l0 x14_3).f0)] from rfl) (Reps.none _ _)))
                   intro v187 w53 ho54 hb hg_ hnew_
                   clear hg_ hnew_
                   (first | rw [← Ny186.out] at ho54 | (simp only [Int.reduceToNat] at ho54; rw [← Ny186.out] at ho54))
                   have HO188 := uD (Kd.R_lower ho54 (uN (pb HB)))
                   replace HB := uD (uO (pb HB) hb)
                   clear hb ho54
                   refine hK.out _ _ ⟨((HB.out.cell (World.block_lt_of_cell? w _ hw185_0)).trans hw185_0), ((HB.out.cell (World.block_lt_of_cell? w _ hw185_1)).trans hw185_1), ((HB.out.cell (World.block_lt_of_cell? w _ hw185_2)).trans hw185_2)⟩ (fun hHeld => ?_)
                   clear hK K
                   refine norm_ (a' := ?_) ?_ ?_
                   rotate_left
                   ·show uc _ (some 79) _ = _
                    simp only [uc, uA, uB, uC, uZ, ua]
                    rfl
                   refine one_ (i := 0) (N := some 71) #[T,T,F,T,T,T,T,T,T,F,F] rfl rfl (one_of HT_.out (by kernel_rfl)) (by decide) (fun K hK => ?_)
                   refine Kd.R_lit_step (Kd.int .i64) _ 3 ?hg (N := 71) ?hd (xs := ([] : List Int)) (inner := []) (ok := fun _ => True) (okp := fun _ => True) ?hr ?hp (fun _ hk => hk) trivial (Below.refl _ _) (Nat.le_refl _) (by simp) ?_; (case hd => rfl); (case hg => rfl); (case hr => first | (go_simp; done) | (go_simp; rfl)); (case hp => exact (Reps.none _ _))
                   intro v180 w55 ho56 hb hg_ hnew_
                   clear hg_ hnew_
                   (first | rw [← Ny179.out] at ho56 | (simp only [Int.reduceToNat] at ho56; rw [← Ny179.out] at ho56))
                   have HO181 := uD (Kd.R_lower (Kd.R_new' ho56 (Kd.R_lt (pr HO188))) (uN (pb HB)))
                   replace HO188 := uD (Kd.R_elder' (pr HO188) (Kd.R_base ho56) hb)
                   replace HB := uD (uO (pb HB) hb)
                   clear hb ho56
                   refine hK.out _ _ ⟨((HB.out.cell (World.block_lt_of_cell? w _ hw185_0)).trans hw185_0), ((HB.out.cell (World.block_lt_of_cell? w _ hw185_1)).trans hw185_1), ((HB.out.cell (World.block_lt_of_cell? w _ hw185_2)).trans hw185_2)⟩ (fun hHeld => ?_)
                   clear hK K
                   refine norm_ (a' := ?_) ?_ ?_
                   rotate_left
                   ·show uc _ (some 71) _ = _
                    simp only [uc, uA, uB, uC, uZ, ua]
                    rfl
                   refine one_ (i := 2) (N := some 73) #[T,T,T,T,T,T,T,T,T,F,F] rfl rfl (one_of HT_.out (by kernel_rfl)) (by decide) (fun K hK => ?_)
                   refine Kd.R_append_rows_step (Kd.int .i64) (w0 := w) w.heap.size (by rfl) (.tmp 71) (.tmp 72) 36 3 (.int .i64 0) 8 rfl Try.underlying36 info3 rfl (by decide) (by omega) v180 y179 l3 _ _ _ (fun k_ => some k_ ≠ (v187 : Value).ownBlock) (fun _ => False) rfl rfl ?aO ?aR (fun _ _ h => h) (fun _ h => h.elim) ?aF ?aB ?aS ?aL ?_
                   (case aR => repeat (first | exact (Kd.C_below HR3.out HB.out) | (with_reducible refine Kd.C_alloc ?_ _) | (with_reducible refine Kd.C_drewN ?_ _) | (with_reducible refine Kd.C_drew ?_)))
                   (case aB => exact (pb HB))
                   (case aF => exact (fun k_ hk => Kd.fresh' (Kd.R_lt (pr HO188)) k_ hk))
                   (case aO => exact (by (with_reducible repeat (first | apply uU | apply uS | apply uT)); exact uX HO181.out (fun _ hk => hk.2)))
                   (case aS => exact (uN (pb HB)))
                   (case aL => have := LMc23.out; omega)
                   intro v183 w57 ho hb hg hat
                   rw [← Ny182.out] at ho
                   replace HO188 := uD (Kd.R_after (ok := (fun _ => True)) (pr HO188) hg hat)
                   replace HB := uD (hb)
                   have HO184 := uD (ho)
                   clear HO181
                   clear ho hb hg hat
                   refine hK.out _ _ ⟨((HB.out.cell (World.block_lt_of_cell? w _ hw185_0)).trans hw185_0), ((HB.out.cell (World.block_lt_of_cell? w _ hw185_1)).trans hw185_1), ((HB.out.cell (World.block_lt_of_cell? w _ hw185_2)).trans hw185_2)⟩ (fun hHeld => ?_)
                   clear hK K
                   refine norm_ (a' := ?_) ?_ ?_
                   rotate_left
                   ·show uc _ (some 73) _ = _
                    simp only [uc, uA, uB, uC, uZ, ua]
                    rfl
                   exact norm_ (by simp only [putAll, uc, uA, uB, uC]) (hCont (v180, v183, v187) _ ⟨hHeld, (pr HO184), (by (with_reducible repeat (first | apply uU | apply uS | apply uT)); exact uX HO188.out (fun _ hk => hk.2)), (pb HB)⟩)
                 rintro ⟨v180, v183, v187⟩ w58 ⟨hS_, h0_, h1_, h2_⟩
                 have n0_ : Aside0 (Kd.R (Kd.int .i64) 3 w58 w.heap.size (fun k_ => some k_ ≠ (v187 : Value).ownBlock) v183 y182) := ⟨h0_⟩
                 have n1_ : Aside0 (Kd.R (Kd.int .i64) 3 w58 w.heap.size (fun k_ => some k_ ≠ (v183 : Value).ownBlock) v187 y186) := ⟨h1_⟩
                 have n2_ : Aside0 (Below w.heap.size w w58) := ⟨h2_⟩
                 clear HB
                 clear h0_ h1_ h2_
                 have HO184 := n0_
                 have HO188 := n1_
                 have HB := n2_
                 clear n0_ n1_ n2_
                 have hHeld : w58.cell? (ad185.add ((x14_3).toNat * 3)) = some (.int .i64 ((rd_T47 l0 x14_3).f0)) ∧ w58.cell? ⟨(ad185.add ((x14_3).toNat * 3)).block, (ad185.add ((x14_3).toNat * 3)).off + 1, none⟩ = some (.int .i64 ((rd_T47 l0 x14_3).f1)) ∧ w58.cell? ⟨(ad185.add ((x14_3).toNat * 3)).block, (ad185.add ((x14_3).toNat * 3)).off + 2, none⟩ = some (.int .i64 ((rd_T47 l0 x14_3).f2)) := hS_
                 obtain ⟨Ao60, co60, eo60⟩ := Kd.R_slice HO188.out
                 (first | subst eo60 | (injection eo60 with f1_ f2_ f3_; have f4_ := f1_.symm; have f5_ := f3_.symm; clear f1_ f2_ f3_; subst f4_; subst f5_))
                 refine norm_ (a' := ?_) ?_ ?_
                 rotate_left
                 ·simp only [putAll, uc, uA, uB, uC]
                  rfl
                 refine one_ (i := 9) (N := some 80) #[T,T,T,T,T,T,T,T,T,T,F] rfl rfl (one_of HT_.out (by kernel_rfl)) (by decide) (fun K hK => ?_)
                 refine Kd.R_append_rows_step (Kd.int .i64) (w0 := w) w.heap.size (by rfl) (.tmp 73) (.tmp 79) 36 3 (.int .i64 0) 8 rfl Try.underlying36 info3 rfl (by decide) (by omega) v183 y182 y186 _ _ _ (fun k_ => some k_ ≠ (.slice Ao60 y186.length co60 : Value).ownBlock) (fun _ => False) rfl rfl ?aO ?aR (fun _ _ h => h) (fun _ h => h.elim) ?aF ?aB ?aS ?aL ?_
                 (case aR => repeat (first | exact (Kd.R_reads' HO188.out).2.2 | (with_reducible refine Kd.C_alloc ?_ _) | (with_reducible refine Kd.C_drewN ?_ _) | (with_reducible refine Kd.C_drew ?_)))
                 (case aB => exact (pb HB))
                 (case aF => exact (fun k_ hk => Kd.fresh' (Kd.R_lt (pr HO188)) k_ hk))
                 (case aO => exact (pr HO184))
                 (case aS => exact (uN (pb HB)))
                 (case aL => have := LMc26.out; omega)
                 intro v190 w59 ho hb hg hat
                 rw [← Ny189.out] at ho
                 replace HO188 := uD (Kd.R_after (ok := (fun _ => True)) (by (with_reducible repeat (first | apply uU | apply uS | apply uT)); exact uX HO188.out (fun _ hk => ⟨trivial, hk⟩)) hg hat)
                 replace HB := uD (hb)
                 have HO191 := uD (ho)
                 clear HO184
                 clear ho hb hg hat
                 refine hK.out _ _ ⟨((HB.out.cell (World.block_lt_of_cell? w _ hw185_0)).trans hw185_0), ((HB.out.cell (World.block_lt_of_cell? w _ hw185_1)).trans hw185_1), ((HB.out.cell (World.block_lt_of_cell? w _ hw185_2)).trans hw185_2)⟩ (fun hHeld => ?_)
                 clear hK K
                 refine norm_ (a' := ?_) ?_ ?_
                 rotate_left
                 ·show uc _ (some 80) _ = _
                  simp only [uc, uA, uB, uC, uZ, ua]
                  rfl
                 refine pu 10 (some 15) #[T,T,T,T,T,T,T,T,T,T,T] HT_ ?_
                 refine done_ (done_of HT_.out (by kernel_rfl)) ?_
                 obtain ⟨Ao61, co61, eo61⟩ := Kd.R_slice HO191.out
                 subst eo61
                 try go_wp2_with (first | ((with_reducible refine gate_callee (f := 67) rfl ?_); refine goesL_ (some 88) rfl rfl Try.func67 (by kernel_rfl) rfl #[.slice (some ad185) l0.length c0, .slice A1 l1.length c1, .int .i64 (wrap64 (a2 + 1)), .slice Ao61 y189.length co61, .int .i64 a4, .int .i64 a5] rfl (by (try simp only [List.map_toArray, List.map_cons, List.map_nil]); first | done | rfl | (simp only [List.length_drop, List.length_take]; rfl)) ?_; (with_reducible refine (ih kj14 (by have := HJ7.out; have := HJ9.out; have := HK3.out; have := HJ14.out; omega) _ _ l0 _ _ l1 (wrap64 (a2 + 1)) _ _ y189 a4 a5 t192 _ ?side1 ?side2 ?side3 ?side4 ?side5 ?side6 A27.out).mono ?_); (case side1 => repeat (first | exact (Kd.C_below HR0.out HB.out) | (with_reducible refine Kd.C_alloc ?_ _) | (with_reducible refine Kd.C_drewN ?_ _) | (with_reducible refine Kd.C_drew ?_))); (case side2 => exact HC0.out); (case side3 => repeat (first | exact (Kd.C_below HR1.out HB.out) | (with_reducible refine Kd.C_alloc ?_ _) | (with_reducible refine Kd.C_drewN ?_ _) | (with_reducible refine Kd.C_drew ?_))); (case side4 => exact HC1.out); (case side5 => repeat (first | exact (Kd.R_reads' HO191.out).2.2 | (with_reducible refine Kd.C_alloc ?_ _) | (with_reducible refine Kd.C_drewN ?_ _) | (with_reducible refine Kd.C_drew ?_))); (case side6 => exact (Kd.R_reads' HO191.out).2.1); rintro e w62 ⟨rfl, hb⟩; refine ⟨_, rfl, ?_⟩; replace HO188 := uD (Kd.R_below (pr HO188) hb); replace HO191 := uD (Kd.R_below (pr HO191) hb); replace HB := uD (uO (pb HB) hb); (try clear hb); (try clear hb2); (try clear hk); (try clear hi)))
                 go_roundg kj14
                 case measure => have := HJ7.out; have := HJ9.out; have := HK3.out; have := HJ14.out; omega
                 case rel => exact ⟨(x13_3), (wrap64 (x14_3 + 1)), (by first | rfl | (simp; done) | (simp [*]; done)), (by first | rfl | (simp; done) | (simp [*]; done)), H', ⟨by have := HJ7.out; have := HJ9.out; have := HK3.out; have := HJ14.out; omega⟩, ⟨pb HB⟩⟩
               ·rw [if_neg c26] at H
                exact absurd H (by simp)
              ·rw [if_neg c25] at H
               exact absurd H (by simp)
             ·rw [if_neg c24] at H
              exact absurd H (by simp)
            ·rw [if_neg c23] at H
             exact absurd H (by simp)
        ·rw [if_neg c14] at H
         have c14b0 : decide (x14_3 < (l0.length : Int)) = false := decide_eq_false c14
         clear c14
         obtain rfl := Option.some.inj H
         go_wp2
         go_ret
         exact ⟨by first | rfl | (simp [errW_none, errW_some] <;> rfl) | (simp [*, errW_none, errW_some] <;> rfl), pb HB⟩

end Go.Proofs.Ytnnimbbffbfhoaa.PFnAssigned
